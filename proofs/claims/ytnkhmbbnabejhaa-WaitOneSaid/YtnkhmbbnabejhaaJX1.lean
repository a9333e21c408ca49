/-
  Walks, printed by a program of mine (lk.py): each function meets its contract.
-/
import Derived.KernelRfl
import Derived.Test.YtnkhmbbnabejhaaNumsJ
import Derived.Test.YtnkhmbbnabejhaaJob1
import Derived.Test.YtnkhmbbnabejhaaShelf
namespace Go.Proofs.Ytnkhmbbnabejhaa
open Go Go.LK
set_option linter.unusedSimpArgs false

theorem flat_encZ (l : List Int) : (l.map encZ).flatten = l.map (Value.int .i64) := by
  induction l with
  | nil => rfl
  | cons x l ih => simp only [List.map_cons, List.flatten_cons, ih]; rfl
theorem row_sorted {w : World} {g cap n : Nat} {e : TypeId} {os : Array Obj} {cur : Array Value} {zs ts us : List Int} (hl : ts.length = zs.length) (hu : us = ts.take us.length) (hg : w.heap[g]? = some (.cells cur e (0, 0))) (h1 : zs.length ≤ cap) (h2 : cap ≤ maxLen) (h3 : cur.size = cap * 1) :
    (row (.slice (some ⟨g, 0, none⟩) us.length cap) e 1 (us.map encZ)).holds (Go.Sort.grow (Go.Sort.putRow (Value.int .i64) (Go.Sort.ahead w n) g 0 ts.toArray) os) := by
  have hus : us.length ≤ ts.length := by rw [hu, List.length_take]; omega
  refine ⟨⟨by rw [flat_encZ]; simp, .inr ⟨g, cap, _, by rw [List.length_map], Nat.zero_le _, heap_sortedI _ hg, by rw [List.length_map]; omega, h2, by simp [Go.Sort.putCells, h3], ?_⟩⟩, fun x hx => ?_⟩
  · rw [flat_encZ, List.length_map, Nat.mul_one]
    have ht := take_putCellsI cur ts (by omega)
    have := congrArg (List.take us.length) ht
    rw [List.take_take, Nat.min_eq_left hus, ← List.map_take, ← hu] at this
    exact this
  · obtain ⟨y, _, rfl⟩ := List.mem_map.1 hx; rfl
theorem sorted_st {w : World} {M : List Nat} {g n : Nat} {os : Array Obj} {d : Array Int} {A : Sp} (hM : M = [g]) (hA : A.foot = [g]) (hh : A.holds (Go.Sort.grow (Go.Sort.putRow (Value.int .i64) (Go.Sort.ahead w n) g 0 d) os)) : St w M [A] (Go.Sort.grow (Go.Sort.putRow (Value.int .i64) (Go.Sort.ahead w n) g 0 d) os) := by
  subst hM
  have hb := grownBy_sortedI (w := w) (g := g) (n := n) (os := os) d
  refine ⟨⟨hb.os, hb.tape, hb.output, hb.size, fun k hk hn => hb.block k hk fun he => hn (by simp at he; simp [he])⟩, by simpa using hh, by simp, fun k hk => .inr ?_⟩
  rw [feet_cons, hA] at hk
  simpa using hk
theorem s_Sort (V : Value) (zs : List Int) (hl : zs.length ≤ 1000000) : Tri Try.prog 51 #[V] [] [row V 3 1 (zs.map encZ)] (fun v L' => v = .tuple #[] ∧ L' = [row V 3 1 ((zs.mergeSort (fun x y => decide (x ≤ y))).map encZ)]) := fun w _ hst => by
  obtain ⟨ho, _⟩ := hst.at_ _ (List.mem_singleton_self _)
  rcases ho.2 with ⟨rfl, hn⟩ | ⟨g, cap, cur, rfl, _, hg, hnc, hcm, hcs, htake⟩
  · have : zs = [] := by simpa using hn
    subst this
    exact (Try.slices_Sort_int_none none 0 w).mono fun e w' ⟨he, hw⟩ => ⟨_, _, he, ⟨rfl, rfl⟩, by subst hw; simpa using hst⟩
  · rw [List.length_map] at hnc htake
    rw [flat_encZ, Nat.mul_one] at htake
    have hb : g < w.heap.size := (Array.getElem?_eq_some_iff.1 hg).1
    rw [List.length_map] at hst ⊢
    refine (Try.slices_Sort_int g 0 cap zs w (holds_of_blockI hg htake) hb (by omega)).mono fun e w' ⟨he, n, os, hw⟩ => ⟨_, _, he, ⟨rfl, rfl⟩, ?_⟩
    subst hw
    have hs := row_sorted (us := zs.mergeSort (fun x y => decide (x ≤ y))) (ts := zs.mergeSort (fun x y => decide (x ≤ y))) (n := n) (os := os) (List.length_mergeSort zs) (by rw [List.take_length]) hg hnc hcm hcs
    rw [List.length_mergeSort] at hs
    exact sorted_st rfl rfl hs
theorem s_Compact (V : Value) (zs : List Int) (hl : zs.length ≤ 1000000) : Tri Try.prog 55 #[V] [] [row V 3 1 (zs.map encZ)] (fun v L' => L' = [row v 3 1 ((Go.Lib.compact zs).map encZ)]) := fun w _ hst => by
  obtain ⟨ho, _⟩ := hst.at_ _ (List.mem_singleton_self _)
  rcases ho.2 with ⟨rfl, hn⟩ | ⟨g, cap, cur, rfl, _, hg, hnc, hcm, hcs, htake⟩
  · have : zs = [] := by simpa using hn
    subst this
    exact (Try.slices_Compact_int_empty none 0 w).mono fun e w' ⟨he, hw⟩ => ⟨_, _, he, rfl, by subst hw; simpa [Go.Lib.compact, Go.Lib.compactUpTo] using hst⟩
  · rw [List.length_map] at hnc htake
    rw [flat_encZ, Nat.mul_one] at htake
    rw [List.length_map] at hst ⊢
    refine (Try.slices_Compact_int g 0 cap zs w (holds_of_blockI hg htake) (by omega) hnc).mono fun e w' ⟨he, n, hw⟩ => ⟨_, _, he, rfl, ?_⟩
    subst hw
    have hle := Go.Lib.compact_length_le zs
    have hs := row_sorted (us := Go.Lib.compact zs) (ts := Go.Lib.compact zs ++ List.replicate (zs.length - (Go.Lib.compact zs).length) 0) (n := n) (os := #[]) (zs := zs) (by simp; omega) (by rw [List.take_left]) hg hnc hcm hcs
    rw [Go.Sort.grow_empty] at hs
    have h2 := sorted_st (w := w) (os := #[]) (n := n) (d := (Go.Lib.compact zs ++ List.replicate (zs.length - (Go.Lib.compact zs).length) 0).toArray) (M := [g]) (g := g) (A := row (.slice (some ⟨g, 0, none⟩) (Go.Lib.compact zs).length cap) 3 1 ((Go.Lib.compact zs).map encZ)) rfl rfl (by rw [Go.Sort.grow_empty]; exact hs)
    rw [Go.Sort.grow_empty] at h2
    exact h2

set_option maxRecDepth 100000 in
theorem s_Index (sv : Value) (l : List Int) (x : Int) (hl : l.length ≤ 100000) : Tri Try.prog 56 #[sv, .int .i64 x] [rd sv 1 (l.map encZ)] [] (fun v L' => ∃ k, v = .int .i64 k ∧ Jb.IdxP l x k ∧ L' = []) := by
  refine Tri.enter (args := [sv, .int .i64 x]) (body := _) 19 Try.func56 rfl Try.ntmps56 rfl ?_
  intro w0
  refine J.seq ?_
  refine J.region ?_
  refine O.p (Pu.assign rfl) rfl ?_
  refine O.nil ?_
  refine J.seq ?_
  refine J.seq ?_
  refine J.region ?_
  refine O.p (Pu.move rfl) rfl ?_
  refine O.q (Qt.lenM Try.runUnderlying24 rfl (Src.ro 0 rfl)) rfl ?_
  refine O.p (Pu.move rfl) rfl ?_
  refine O.nil ?_
  refine J.block ?_
  refine J.loop (X := Nat) (fun ξ => ξ ≤ l.length ∧ ∀ j, j < ξ → ∀ y, l[j]? = some y → y ≠ x) (fun ξ => [(0, sv), (1, .int .i64 x), (7, .int .i64 (l.length : Int)), (8, .int .i64 (ξ : Int))]) (fun ξ => []) (fun ξ => l.length - ξ) 0 (show 0 ≤ l.length ∧ ∀ j, j < 0 → ∀ y, l[j]? = some y → y ≠ x from ⟨by omega, fun j hj => absurd hj (Nat.not_lt_zero _)⟩) ⟨rfl, rfl, rfl, (congrArg (fun z => some (Value.int .i64 z)) (by first | rfl | omega : (0 : Int) = (0 : Int))), trivial⟩ [] (by decide) rfl ?_
  rintro k hq1
  obtain ⟨hk, hno⟩ : k ≤ l.length ∧ ∀ j, j < k → ∀ y, l[j]? = some y → y ≠ x := hq1
  show J _ _ [(0, sv), (1, .int .i64 x), (7, .int .i64 (l.length : Int)), (8, .int .i64 (k : Int))] []
  refine J.seq ?_
  refine J.region ?_
  refine O.p (Pu.lss rfl rfl) rfl ?_
  refine O.nil ?_
  refine J.seq ?_
  refine J.cond rfl (fun h2 => ?_) (fun h2 => ?_)
  ·
    have p3 := of_decide_eq_true h2
    refine J.skip ?_
    refine J.seq ?_
    refine J.block ?_
    refine J.seq ?_
    refine J.region ?_
    refine O.p (Pu.move rfl) rfl ?_
    refine O.p (Pu.assign rfl) rfl ?_
    refine O.nil ?_
    refine J.seq ?_
    refine J.region ?_
    refine O.p (Pu.move rfl) rfl ?_
    refine O.p (Pu.move rfl) rfl ?_
    refine O.p (Pu.move rfl) rfl ?_
    obtain ⟨e4, he4⟩ : ∃ x_, l[k]? = some x_ := ⟨_, List.getElem?_eq_getElem (by omega)⟩
    refine O.q (Qt.idxM Try.runUnderlying24 Try.sizeOf3 rfl (Src.ro 0 rfl) rfl (by omega) (by omega)) rfl ?_
    refine O.q (Qt.ld rfl (Cel.eltM (Src.ro 0 rfl) he4) (o := (voff sv + k * 1)) (off := 0) (by omega) (Cut.one Try.isAgg3 rfl)) rfl ?_
    refine O.p (Pu.eql rfl rfl) rfl ?_
    refine O.nil ?_
    refine J.cond rfl (fun h5 => ?_) (fun h5 => ?_)
    ·
      have p6 := of_decide_eq_true h5
      refine J.seq ?_
      refine J.region ?_
      refine O.p (Pu.move rfl) rfl ?_
      refine O.p (Pu.assign rfl) rfl ?_
      refine O.nil ?_
      exact J.ret (Fin.ret (rs := [.tmp 4]) rfl [_] ⟨rfl, trivial⟩ [] (by decide) [] rfl ⟨_, rfl, Jb.idx_yes hno he4 (by omega), rfl⟩)
    ·
      have p7 := of_decide_eq_false h5
      refine J.skip ?_
      refine J.blk ?_
      refine J.region ?_
      refine O.p (Pu.add' rfl rfl (by first | omega | (simp only [List.length_append, List.length_cons, List.length_nil, List.length_set]; omega))) rfl ?_
      refine O.p (Pu.move rfl) rfl ?_
      refine O.nil ?_
      exact J.lp (k + 1) (show (k + 1) ≤ l.length ∧ ∀ j, j < (k + 1) → ∀ y, l[j]? = some y → y ≠ x from ⟨by omega, Jb.idx_next hno he4 (by omega)⟩) (show l.length - (k + 1) < l.length - k from (by omega)) ⟨rfl, rfl, rfl, (congrArg (fun z => some (Value.int .i64 z)) (by first | rfl | omega : ((k : Int) + 1 : Int) = ((k + 1) : Int))), trivial⟩ [] (by decide) rfl
  ·
    have p8 := of_decide_eq_false h2
    refine J.exit _ rfl ?_
    refine J.seq ?_
    refine J.region ?_
    refine O.p (Pu.assign rfl) rfl ?_
    refine O.nil ?_
    exact J.ret (Fin.ret (rs := [.tmp 4]) rfl [_] ⟨rfl, trivial⟩ [] (by decide) [] rfl ⟨_, rfl, Jb.idx_no hno (by omega), rfl⟩)

set_option maxRecDepth 100000 in
theorem s_Equal (av bv : Value) (l m : List Int) (hl : l.length ≤ 100000) (hm : m.length ≤ 100000) : Tri Try.prog 62 #[av, bv] [rd av 1 (l.map encZ), rd bv 1 (m.map encZ)] [] (fun v L' => v = .bool (decide (l = m)) ∧ L' = []) := by
  refine Tri.enter (args := [av, bv]) (body := _) 26 Try.func62 rfl Try.ntmps62 rfl ?_
  intro w0
  refine J.seq ?_
  refine J.region ?_
  refine O.p (Pu.assign rfl) rfl ?_
  refine O.nil ?_
  refine J.seq ?_
  refine J.seq ?_
  refine J.region ?_
  refine O.p (Pu.move rfl) rfl ?_
  refine O.q (Qt.lenM Try.runUnderlying24 rfl (Src.ro 0 rfl)) rfl ?_
  refine O.p (Pu.move rfl) rfl ?_
  refine O.q (Qt.lenM Try.runUnderlying24 rfl (Src.ro 1 rfl)) rfl ?_
  refine O.p (Pu.neq rfl rfl) rfl ?_
  refine O.nil ?_
  refine J.cond rfl (fun h1 => ?_) (fun h1 => ?_)
  ·
    have p2 := of_decide_eq_true h1
    refine J.seq ?_
    refine J.region ?_
    refine O.p (Pu.assign rfl) rfl ?_
    refine O.nil ?_
    exact J.ret (Fin.ret (rs := [.tmp 4]) rfl [_] ⟨rfl, trivial⟩ [] (by decide) [] rfl ⟨(by simp only [vOf]; rw [decide_eq_false]; intro h_; subst h_; omega), rfl⟩)
  ·
    have p3 := of_decide_eq_false h1
    refine J.skip ?_
    refine J.seq ?_
    refine J.seq ?_
    refine J.region ?_
    refine O.p (Pu.move rfl) rfl ?_
    refine O.q (Qt.lenM Try.runUnderlying24 rfl (Src.ro 0 rfl)) rfl ?_
    refine O.p (Pu.move rfl) rfl ?_
    refine O.nil ?_
    refine J.block ?_
    refine J.loop (X := Nat) (fun ξ => ξ ≤ l.length ∧ l.length = m.length ∧ l.take ξ = m.take ξ) (fun ξ => [(0, av), (1, bv), (12, .int .i64 (l.length : Int)), (13, .int .i64 (ξ : Int))]) (fun ξ => []) (fun ξ => l.length - ξ) 0 (show 0 ≤ l.length ∧ l.length = m.length ∧ l.take 0 = m.take 0 from ⟨by omega, by omega, rfl⟩) ⟨rfl, rfl, rfl, (congrArg (fun z => some (Value.int .i64 z)) (by first | rfl | omega : (0 : Int) = (0 : Int))), trivial⟩ [] (by decide) rfl ?_
    rintro k hq4
    obtain ⟨hk, hlm, hst⟩ : k ≤ l.length ∧ l.length = m.length ∧ l.take k = m.take k := hq4
    show J _ _ [(0, av), (1, bv), (12, .int .i64 (l.length : Int)), (13, .int .i64 (k : Int))] []
    refine J.seq ?_
    refine J.region ?_
    refine O.p (Pu.lss rfl rfl) rfl ?_
    refine O.nil ?_
    refine J.seq ?_
    refine J.cond rfl (fun h5 => ?_) (fun h5 => ?_)
    ·
      have p6 := of_decide_eq_true h5
      refine J.skip ?_
      refine J.seq ?_
      refine J.block ?_
      refine J.seq ?_
      refine J.region ?_
      refine O.p (Pu.move rfl) rfl ?_
      refine O.p (Pu.assign rfl) rfl ?_
      refine O.nil ?_
      refine J.seq ?_
      refine J.drawStill Try.mixed (by kernel_rfl) ?_
      refine S.p (Pu.move rfl) rfl ?_
      refine S.p (Pu.move rfl) rfl ?_
      obtain ⟨e7, he7⟩ : ∃ x_, l[k]? = some x_ := ⟨_, List.getElem?_eq_getElem (by omega)⟩
      refine S.q (Qt.idxM Try.runUnderlying24 Try.sizeOf3 rfl (Src.ro 0 rfl) rfl (by omega) (by omega)) rfl ?_
      refine S.q (Qt.ld rfl (Cel.eltM (Src.ro 0 rfl) he7) (o := (voff av + k * 1)) (off := 0) (by omega) (Cut.one Try.isAgg3 rfl)) rfl ?_
      refine S.p (Pu.move rfl) rfl ?_
      refine S.p (Pu.move rfl) rfl ?_
      obtain ⟨e8, he8⟩ : ∃ x_, m[k]? = some x_ := ⟨_, List.getElem?_eq_getElem (by omega)⟩
      refine S.q (Qt.idxM Try.runUnderlying24 Try.sizeOf3 rfl (Src.ro 1 rfl) rfl (by omega) (by omega)) rfl ?_
      refine S.q (Qt.ld rfl (Cel.eltM (Src.ro 1 rfl) he8) (o := (voff bv + k * 1)) (off := 0) (by omega) (Cut.one Try.isAgg3 rfl)) rfl ?_
      refine S.p (Pu.neq rfl rfl) rfl ?_
      refine S.endJ ?_
      refine J.cond rfl (fun h9 => ?_) (fun h9 => ?_)
      ·
        have p10 := of_decide_eq_true h9
        refine J.seq ?_
        refine J.region ?_
        refine O.p (Pu.assign rfl) rfl ?_
        refine O.nil ?_
        exact J.ret (Fin.ret (rs := [.tmp 4]) rfl [_] ⟨rfl, trivial⟩ [] (by decide) [] rfl ⟨(by simp only [vOf]; rw [decide_eq_false]; intro h_; subst h_; have h2_ := he7.symm.trans he8; cases h2_; omega), rfl⟩)
      ·
        have p11 := of_decide_eq_false h9
        refine J.skip ?_
        refine J.blk ?_
        refine J.region ?_
        refine O.p (Pu.add' rfl rfl (by first | omega | (simp only [List.length_append, List.length_cons, List.length_nil, List.length_set]; omega))) rfl ?_
        refine O.p (Pu.move rfl) rfl ?_
        refine O.nil ?_
        exact J.lp (k + 1) (show (k + 1) ≤ l.length ∧ l.length = m.length ∧ l.take (k + 1) = m.take (k + 1) from ⟨by omega, hlm, (by rw [List.take_add_one, List.take_add_one, hst, he7, he8, (Decidable.not_not.1 (by assumption) : e7 = e8)])⟩) (show l.length - (k + 1) < l.length - k from (by omega)) ⟨rfl, rfl, rfl, (congrArg (fun z => some (Value.int .i64 z)) (by first | rfl | omega : ((k : Int) + 1 : Int) = ((k + 1) : Int))), trivial⟩ [] (by decide) rfl
    ·
      have p12 := of_decide_eq_false h5
      refine J.exit _ rfl ?_
      refine J.seq ?_
      refine J.region ?_
      refine O.p (Pu.assign rfl) rfl ?_
      refine O.nil ?_
      exact J.ret (Fin.ret (rs := [.tmp 4]) rfl [_] ⟨rfl, trivial⟩ [] (by decide) [] rfl ⟨(by simp only [vOf]; rw [decide_eq_true]; rw [List.take_of_length_le (by omega), List.take_of_length_le (by omega)] at hst; exact hst), rfl⟩)

set_option maxRecDepth 100000 in
theorem jb_over (code : Int) : Tri Try.prog 57 #[.int .i64 code] [] [] (fun v L' => v = .tuple #[.agg #[.int .i64 0, .int .i64 0, .int .i64 0, .int .i64 0, .int .i64 0, .int .i64 0, .int .i64 0, .int .i64 0, Value.slice none 0 0], .int .i64 code] ∧ L' = []) := by
  refine Tri.enter (args := [.int .i64 code]) (body := _) 6 Try.func57 rfl Try.ntmps57 rfl ?_
  intro w0
  refine J.seq ?_
  refine J.region ?_
  refine O.l (Lo.alloc [.int .i64 0, .int .i64 0, .int .i64 0, .int .i64 0, .int .i64 0, .int .i64 0, .int .i64 0, .int .i64 0, Value.slice none 0 0] (by exact Try.zeroValue28) rfl) rfl ?_
  rintro _ _ ⟨g1, rfl, rfl⟩
  refine O.p (Pu.assign rfl) rfl ?_
  refine O.nil ?_
  refine J.seq ?_
  refine J.region ?_
  refine O.p (Pu.build [] [.int .i64 0, .int .i64 0, .int .i64 0, .int .i64 0, .int .i64 0, .int .i64 0, .int .i64 0, .int .i64 0, Value.slice none 0 0] #[(0, 7), (7, 1), (8, 1)] Try.runUnderlying28 Try.zeroValue28 (places28 Try.underlying28) rfl (by kernel_rfl)) rfl ?_
  refine O.p (Pu.move rfl) rfl ?_
  refine O.l0 (Lo.store 0 (vs := [.int .i64 0, .int .i64 0, .int .i64 0, .int .i64 0, .int .i64 0, .int .i64 0, .int .i64 0, .int .i64 0, Value.slice none 0 0]) [.int .i64 0, .int .i64 0, .int .i64 0, .int .i64 0, .int .i64 0, .int .i64 0, .int .i64 0, .int .i64 0, Value.slice none 0 0] rfl rfl rfl (by exact Try.sizeOf28) rfl rfl rfl rfl rfl) ?_
  rintro _ _ rfl
  refine O.p (Pu.assign rfl) rfl ?_
  refine O.nil ?_
  exact J.ret (Fin.ret (rs := [.cell 2 28, .tmp 3]) rfl [_, _] ⟨⟨_, _, 0, 0, _, rfl, (Cel.var 0 rfl), rfl, (Cut.agg [.int .i64 0, .int .i64 0, .int .i64 0, .int .i64 0, .int .i64 0, .int .i64 0, .int .i64 0, .int .i64 0, Value.slice none 0 0] Try.isAgg28 Try.sizeOf28 rfl rfl)⟩, rfl, trivial⟩ [] (by decide) [] rfl ⟨rfl, rfl⟩)

set_option maxRecDepth 100000 in
theorem jb_New (x0 x1 x2 x3 x4 x5 x6 : Int) : Tri Try.prog 13 #[.agg #[.int .i64 x0, .int .i64 x1, .int .i64 x2, .int .i64 x3, .int .i64 x4, .int .i64 x5, .int .i64 x6]] [] [] (fun v L' => v = .agg #[.int .i64 x0, .int .i64 x1, .int .i64 x2, .int .i64 x3, .int .i64 x4, .int .i64 x5, .int .i64 x6, .int .i64 1, Value.slice none 0 0] ∧ L' = []) := by
  refine Tri.enter (args := [.agg #[.int .i64 x0, .int .i64 x1, .int .i64 x2, .int .i64 x3, .int .i64 x4, .int .i64 x5, .int .i64 x6]]) (body := _) 5 Try.func13 rfl Try.ntmps13 rfl ?_
  intro w0
  refine J.seq ?_
  refine J.region ?_
  refine O.l (Lo.box [.int .i64 x0, .int .i64 x1, .int .i64 x2, .int .i64 x3, .int .i64 x4, .int .i64 x5, .int .i64 x6] rfl rfl) rfl ?_
  rintro _ _ ⟨g1, rfl, rfl⟩
  refine O.l (Lo.alloc [.int .i64 0, .int .i64 0, .int .i64 0, .int .i64 0, .int .i64 0, .int .i64 0, .int .i64 0, .int .i64 0, Value.slice none 0 0] (by exact Try.zeroValue28) rfl) rfl ?_
  rintro _ _ ⟨g2, rfl, rfl⟩
  refine O.nil ?_
  refine J.seq ?_
  refine J.region ?_
  refine O.q (Qt.ld rfl (Cel.var 1 rfl) (o := 0) (off := 0) rfl (Cut.agg [.int .i64 x0, .int .i64 x1, .int .i64 x2, .int .i64 x3, .int .i64 x4, .int .i64 x5, .int .i64 x6] Try.isAgg23 Try.sizeOf23 rfl rfl)) rfl ?_
  refine O.p (Pu.build [(0, .agg #[.int .i64 x0, .int .i64 x1, .int .i64 x2, .int .i64 x3, .int .i64 x4, .int .i64 x5, .int .i64 x6]), (1, .int .i64 1)] [.int .i64 x0, .int .i64 x1, .int .i64 x2, .int .i64 x3, .int .i64 x4, .int .i64 x5, .int .i64 x6, .int .i64 1, Value.slice none 0 0] #[(0, 7), (7, 1), (8, 1)] Try.runUnderlying28 Try.zeroValue28 (places28 Try.underlying28) rfl (by kernel_rfl)) rfl ?_
  refine O.l0 (Lo.store 0 (vs := [.int .i64 x0, .int .i64 x1, .int .i64 x2, .int .i64 x3, .int .i64 x4, .int .i64 x5, .int .i64 x6, .int .i64 1, Value.slice none 0 0]) [.int .i64 x0, .int .i64 x1, .int .i64 x2, .int .i64 x3, .int .i64 x4, .int .i64 x5, .int .i64 x6, .int .i64 1, Value.slice none 0 0] rfl rfl rfl (by exact Try.sizeOf28) rfl rfl rfl rfl rfl) ?_
  rintro _ _ rfl
  refine O.nil ?_
  exact J.ret (Fin.ret (rs := [.cell 2 28]) rfl [_] ⟨⟨_, _, 0, 0, _, rfl, (Cel.var 0 rfl), rfl, (Cut.agg [.int .i64 x0, .int .i64 x1, .int .i64 x2, .int .i64 x3, .int .i64 x4, .int .i64 x5, .int .i64 x6, .int .i64 1, Value.slice none 0 0] Try.isAgg28 Try.sizeOf28 rfl rfl)⟩, trivial⟩ [] (by decide) [] rfl ⟨rfl, rfl⟩)

set_option maxRecDepth 100000 in
theorem jb_Ends (x0 x1 x2 x3 x4 x5 x6 : Int) (ph now : Int) (qv : Value) (hq : Value.oneCell' qv = true) : Tri Try.prog 35 #[.agg #[.int .i64 x0, .int .i64 x1, .int .i64 x2, .int .i64 x3, .int .i64 x4, .int .i64 x5, .int .i64 x6, .int .i64 ph, qv], .int .i64 now] [] [] (fun v L' => v = .int .i64 (if x3 ≤ now then 6 else 0) ∧ L' = []) := by
  refine Tri.enter (args := [.agg #[.int .i64 x0, .int .i64 x1, .int .i64 x2, .int .i64 x3, .int .i64 x4, .int .i64 x5, .int .i64 x6, .int .i64 ph, qv], .int .i64 now]) (body := _) 10 Try.func35 rfl Try.ntmps35 rfl ?_
  intro w0
  refine J.seq ?_
  refine J.region ?_
  refine O.l (Lo.box [.int .i64 x0, .int .i64 x1, .int .i64 x2, .int .i64 x3, .int .i64 x4, .int .i64 x5, .int .i64 x6, .int .i64 ph, qv] rfl rfl) rfl ?_
  rintro _ _ ⟨g1, rfl, rfl⟩
  refine O.p (Pu.assign rfl) rfl ?_
  refine O.nil ?_
  refine J.seq ?_
  refine J.seq ?_
  refine J.region ?_
  refine O.p (Pu.fieldAddr (off' := 0) Try.runUnderlying28 rfl Try.sizeOf23 rfl rfl rfl) rfl ?_
  refine O.p (Pu.fieldAddr (off' := 3) Try.runUnderlying23 rfl Try.sizeOf3 rfl rfl rfl) rfl ?_
  refine O.q (Qt.ld rfl (Cel.var 0 rfl) (o := 0) (off := 3) rfl (Cut.one Try.isAgg3 rfl)) rfl ?_
  refine O.p (Pu.move rfl) rfl ?_
  refine O.p (Pu.leq rfl rfl) rfl ?_
  refine O.nil ?_
  refine J.cond rfl (fun h2 => ?_) (fun h2 => ?_)
  ·
    have p3 := of_decide_eq_true h2
    refine J.seq ?_
    refine J.region ?_
    refine O.p (Pu.assign rfl) rfl ?_
    refine O.nil ?_
    exact J.ret (Fin.ret (rs := [.tmp 4]) rfl [_] ⟨rfl, trivial⟩ [] (by decide) [] rfl ⟨(by first | (rw [if_pos (by assumption)]; rfl) | (rw [if_neg (by assumption)]; rfl)), rfl⟩)
  ·
    have p4 := of_decide_eq_false h2
    refine J.skip ?_
    refine J.seq ?_
    refine J.region ?_
    refine O.p (Pu.assign rfl) rfl ?_
    refine O.nil ?_
    exact J.ret (Fin.ret (rs := [.tmp 4]) rfl [_] ⟨rfl, trivial⟩ [] (by decide) [] rfl ⟨(by first | (rw [if_pos (by assumption)]; rfl) | (rw [if_neg (by assumption)]; rfl)), rfl⟩)

set_option maxRecDepth 100000 in
theorem r32_Ends (x0 x1 x2 x3 x4 x5 x6 : Int) (ph now : Int) (qv : Value) (hq : Value.oneCell' qv = true) : Tri Try.prog 36 #[.agg #[.int .i64 x0, .int .i64 x1, .int .i64 x2, .int .i64 x3, .int .i64 x4, .int .i64 x5, .int .i64 x6, .int .i64 ph, qv], .int .i64 now] [] [] (fun v L' => v = .int .i64 (if x3 ≤ now then 6 else 0) ∧ L' = []) := by
  refine Tri.enter (args := [.agg #[.int .i64 x0, .int .i64 x1, .int .i64 x2, .int .i64 x3, .int .i64 x4, .int .i64 x5, .int .i64 x6, .int .i64 ph, qv], .int .i64 now]) (body := _) 10 Try.func36 rfl Try.ntmps36 rfl ?_
  intro w0
  refine J.seq ?_
  refine J.region ?_
  refine O.l (Lo.box [.int .i64 x0, .int .i64 x1, .int .i64 x2, .int .i64 x3, .int .i64 x4, .int .i64 x5, .int .i64 x6, .int .i64 ph, qv] rfl rfl) rfl ?_
  rintro _ _ ⟨g1, rfl, rfl⟩
  refine O.p (Pu.assign rfl) rfl ?_
  refine O.nil ?_
  refine J.seq ?_
  refine J.seq ?_
  refine J.region ?_
  refine O.p (Pu.fieldAddr (off' := 0) Try.runUnderlying28 rfl Try.sizeOf23 rfl rfl rfl) rfl ?_
  refine O.p (Pu.fieldAddr (off' := 3) Try.runUnderlying23 rfl Try.sizeOf3 rfl rfl rfl) rfl ?_
  refine O.q (Qt.ld rfl (Cel.var 0 rfl) (o := 0) (off := 3) rfl (Cut.one Try.isAgg3 rfl)) rfl ?_
  refine O.p (Pu.move rfl) rfl ?_
  refine O.p (Pu.leq rfl rfl) rfl ?_
  refine O.nil ?_
  refine J.cond rfl (fun h2 => ?_) (fun h2 => ?_)
  ·
    have p3 := of_decide_eq_true h2
    refine J.seq ?_
    refine J.region ?_
    refine O.p (Pu.assign rfl) rfl ?_
    refine O.nil ?_
    exact J.ret (Fin.ret (rs := [.tmp 4]) rfl [_] ⟨rfl, trivial⟩ [] (by decide) [] rfl ⟨(by first | (rw [if_pos (by assumption)]; rfl) | (rw [if_neg (by assumption)]; rfl)), rfl⟩)
  ·
    have p4 := of_decide_eq_false h2
    refine J.skip ?_
    refine J.seq ?_
    refine J.region ?_
    refine O.p (Pu.assign rfl) rfl ?_
    refine O.nil ?_
    exact J.ret (Fin.ret (rs := [.tmp 4]) rfl [_] ⟨rfl, trivial⟩ [] (by decide) [] rfl ⟨(by first | (rw [if_pos (by assumption)]; rfl) | (rw [if_neg (by assumption)]; rfl)), rfl⟩)

set_option maxRecDepth 100000 in
theorem jb_wait (x0 x1 x2 x3 x4 x5 x6 : Int) (ph : Int) (qv nv : Value) (l : List Int) (hq : Value.oneCell' qv = true) (hne : l ≠ []) : Tri Try.prog 54 #[.agg #[.int .i64 x0, .int .i64 x1, .int .i64 x2, .int .i64 x3, .int .i64 x4, .int .i64 x5, .int .i64 x6, .int .i64 ph, qv], nv] [] [row nv 3 1 (l.map encZ)] (fun v L' => v = .tuple #[.agg #[.int .i64 x0, .int .i64 x1, .int .i64 x2, .int .i64 x3, .int .i64 x4, .int .i64 x5, .int .i64 x6, .int .i64 2, nv], .int .i64 0] ∧ L' = [row nv 3 1 (l.map encZ)]) := by
  refine Tri.enter (args := [.agg #[.int .i64 x0, .int .i64 x1, .int .i64 x2, .int .i64 x3, .int .i64 x4, .int .i64 x5, .int .i64 x6, .int .i64 ph, qv], nv]) (body := _) 17 Try.func54 rfl Try.ntmps54 rfl ?_
  intro w0
  refine J.seq ?_
  refine J.region ?_
  refine O.l (Lo.box [.int .i64 x0, .int .i64 x1, .int .i64 x2, .int .i64 x3, .int .i64 x4, .int .i64 x5, .int .i64 x6, .int .i64 ph, qv] rfl rfl) rfl ?_
  rintro _ _ ⟨g1, rfl, rfl⟩
  refine O.l (Lo.alloc [.int .i64 0, .int .i64 0, .int .i64 0, .int .i64 0, .int .i64 0, .int .i64 0, .int .i64 0, .int .i64 0, Value.slice none 0 0] (by exact Try.zeroValue28) rfl) rfl ?_
  rintro _ _ ⟨g2, rfl, rfl⟩
  refine O.p (Pu.assign rfl) rfl ?_
  refine O.nil ?_
  refine J.seq ?_
  refine J.seq ?_
  refine J.region ?_
  refine O.p (Pu.move rfl) rfl ?_
  refine O.q (Qt.lenM Try.runUnderlying24 rfl (Src.row 2 rfl)) rfl ?_
  refine O.p (Pu.eql rfl rfl) rfl ?_
  refine O.nil ?_
  refine J.condF rfl (decide_eq_false (by have h_ := List.length_pos_iff.2 hne; omega)) ?_
  refine J.skip ?_
  refine J.seq ?_
  refine J.region ?_
  refine O.p (Pu.fieldAddr (off' := 0) Try.runUnderlying88 rfl Try.sizeOf28 rfl rfl rfl) rfl ?_
  refine O.p (Pu.fieldAddr (off' := 0) Try.runUnderlying28 rfl Try.sizeOf23 rfl rfl rfl) rfl ?_
  refine O.q (Qt.ld rfl (Cel.var 1 rfl) (o := 0) (off := 0) rfl (Cut.agg [.int .i64 x0, .int .i64 x1, .int .i64 x2, .int .i64 x3, .int .i64 x4, .int .i64 x5, .int .i64 x6] Try.isAgg23 Try.sizeOf23 rfl rfl)) rfl ?_
  refine O.p (Pu.move rfl) rfl ?_
  refine O.one (Src.row 2 rfl) (fun hV3 => ?_)
  refine O.p (Pu.build [(0, .agg #[.int .i64 x0, .int .i64 x1, .int .i64 x2, .int .i64 x3, .int .i64 x4, .int .i64 x5, .int .i64 x6]), (1, .int .i64 2), (2, nv)] [.int .i64 x0, .int .i64 x1, .int .i64 x2, .int .i64 x3, .int .i64 x4, .int .i64 x5, .int .i64 x6, .int .i64 2, nv] #[(0, 7), (7, 1), (8, 1)] Try.runUnderlying28 Try.zeroValue28 (places28 Try.underlying28) rfl (by cases nv <;> first | (simp [Value.oneCell'] at hV3; done) | (kernel_rfl; done))) rfl ?_
  refine O.l0 (Lo.store 0 (vs := [.int .i64 x0, .int .i64 x1, .int .i64 x2, .int .i64 x3, .int .i64 x4, .int .i64 x5, .int .i64 x6, .int .i64 2, nv]) [.int .i64 x0, .int .i64 x1, .int .i64 x2, .int .i64 x3, .int .i64 x4, .int .i64 x5, .int .i64 x6, .int .i64 2, nv] rfl rfl rfl (by exact Try.sizeOf28) rfl rfl (by simp only [List.all_cons, List.all_nil, Bool.and_true, hV3] <;> rfl) rfl rfl) ?_
  rintro _ _ rfl
  refine O.p (Pu.assign rfl) rfl ?_
  refine O.nil ?_
  exact J.ret (Fin.ret (rs := [.cell 4 28, .tmp 5]) rfl [_, _] ⟨⟨_, _, 0, 0, _, rfl, (Cel.var 0 rfl), rfl, (Cut.agg [.int .i64 x0, .int .i64 x1, .int .i64 x2, .int .i64 x3, .int .i64 x4, .int .i64 x5, .int .i64 x6, .int .i64 2, nv] Try.isAgg28 Try.sizeOf28 rfl rfl)⟩, rfl, trivial⟩ [2] (by decide) [row nv 3 1 (l.map encZ)] rfl ⟨rfl, rfl⟩)

set_option maxRecDepth 100000 in
theorem jb_waitE (x0 x1 x2 x3 x4 x5 x6 : Int) (ph : Int) (qv nv : Value) (hq : Value.oneCell' qv = true) : Tri Try.prog 54 #[.agg #[.int .i64 x0, .int .i64 x1, .int .i64 x2, .int .i64 x3, .int .i64 x4, .int .i64 x5, .int .i64 x6, .int .i64 ph, qv], nv] [] [row nv 3 1 (([] : List Int).map encZ)] (fun v L' => v = .tuple #[.agg #[.int .i64 0, .int .i64 0, .int .i64 0, .int .i64 0, .int .i64 0, .int .i64 0, .int .i64 0, .int .i64 0, Value.slice none 0 0], .int .i64 1] ∧ L' = []) := by
  refine Tri.enter (args := [.agg #[.int .i64 x0, .int .i64 x1, .int .i64 x2, .int .i64 x3, .int .i64 x4, .int .i64 x5, .int .i64 x6, .int .i64 ph, qv], nv]) (body := _) 17 Try.func54 rfl Try.ntmps54 rfl ?_
  intro w0
  refine J.seq ?_
  refine J.region ?_
  refine O.l (Lo.box [.int .i64 x0, .int .i64 x1, .int .i64 x2, .int .i64 x3, .int .i64 x4, .int .i64 x5, .int .i64 x6, .int .i64 ph, qv] rfl rfl) rfl ?_
  rintro _ _ ⟨g1, rfl, rfl⟩
  refine O.l (Lo.alloc [.int .i64 0, .int .i64 0, .int .i64 0, .int .i64 0, .int .i64 0, .int .i64 0, .int .i64 0, .int .i64 0, Value.slice none 0 0] (by exact Try.zeroValue28) rfl) rfl ?_
  rintro _ _ ⟨g2, rfl, rfl⟩
  refine O.p (Pu.assign rfl) rfl ?_
  refine O.nil ?_
  refine J.seq ?_
  refine J.seq ?_
  refine J.region ?_
  refine O.p (Pu.move rfl) rfl ?_
  refine O.q (Qt.lenM Try.runUnderlying24 rfl (Src.row 2 rfl)) rfl ?_
  refine O.p (Pu.eql rfl rfl) rfl ?_
  refine O.nil ?_
  refine J.condT rfl rfl ?_
  refine J.seq ?_
  refine J.region ?_
  refine O.l (Lo.call [.int .i64 1] (by exact Try.call57) rfl (jb_over 1) [] [0, 1, 2] (by decide) rfl [var g2 [.int .i64 0, .int .i64 0, .int .i64 0, .int .i64 0, .int .i64 0, .int .i64 0, .int .i64 0, .int .i64 0, Value.slice none 0 0] 28, var g1 [.int .i64 x0, .int .i64 x1, .int .i64 x2, .int .i64 x3, .int .i64 x4, .int .i64 x5, .int .i64 x6, .int .i64 ph, qv] 88, row nv 3 1 (([] : List Int).map encZ)] rfl RoOk.nil) rfl ?_
  rintro _ _ ⟨_, ⟨rfl, rfl⟩, rfl⟩
  refine O.p (Pu.extract rfl rfl) rfl ?_
  refine O.p (Pu.extract rfl rfl) rfl ?_
  refine O.l0 (Lo.store 0 (vs := [.int .i64 0, .int .i64 0, .int .i64 0, .int .i64 0, .int .i64 0, .int .i64 0, .int .i64 0, .int .i64 0, Value.slice none 0 0]) [.int .i64 0, .int .i64 0, .int .i64 0, .int .i64 0, .int .i64 0, .int .i64 0, .int .i64 0, .int .i64 0, Value.slice none 0 0] rfl rfl rfl (by exact Try.sizeOf28) rfl rfl rfl rfl rfl) ?_
  rintro _ _ rfl
  refine O.p (Pu.assign rfl) rfl ?_
  refine O.nil ?_
  exact J.ret (Fin.ret (rs := [.cell 4 28, .tmp 5]) rfl [_, _] ⟨⟨_, _, 0, 0, _, rfl, (Cel.var 0 rfl), rfl, (Cut.agg [.int .i64 0, .int .i64 0, .int .i64 0, .int .i64 0, .int .i64 0, .int .i64 0, .int .i64 0, .int .i64 0, Value.slice none 0 0] Try.isAgg28 Try.sizeOf28 rfl rfl)⟩, rfl, trivial⟩ [] (by decide) [] rfl ⟨rfl, rfl⟩)

set_option maxRecDepth 100000 in
theorem jb_done1 (gj gl : Nat) (x0 x1 x2 x3 x4 x5 x6 : Int) (ph : Int) (qv V : Value) (l : List Int) (hq : Value.oneCell' qv = true) (hl : l.length ≤ 1000) (hne : l ≠ []) : Tri Try.prog 53 #[.pointer (some ⟨gj, 0, none⟩), .pointer (some ⟨gl, 0, none⟩)] [] [var gj [.int .i64 x0, .int .i64 x1, .int .i64 x2, .int .i64 x3, .int .i64 x4, .int .i64 x5, .int .i64 x6, .int .i64 ph, qv] 28, var gl [V] 24, row V 3 1 ((l.mergeSort (fun x y => decide (x ≤ y))).map encZ)] (fun v L' => ∃ V', v = .tuple #[.agg #[.int .i64 x0, .int .i64 x1, .int .i64 x2, .int .i64 x3, .int .i64 x4, .int .i64 x5, .int .i64 x6, .int .i64 2, V'], .int .i64 0] ∧ L' = [row V' 3 1 ((Jb.rising l).map encZ)]) := by
  refine Tri.enter (args := [.pointer (some ⟨gj, 0, none⟩), .pointer (some ⟨gl, 0, none⟩)]) (body := _) 11 Try.func53 rfl Try.ntmps53 rfl ?_
  intro w0
  refine J.seq ?_
  refine J.region ?_
  refine O.l (Lo.alloc [.int .i64 0, .int .i64 0, .int .i64 0, .int .i64 0, .int .i64 0, .int .i64 0, .int .i64 0, .int .i64 0, Value.slice none 0 0] (by exact Try.zeroValue28) rfl) rfl ?_
  rintro _ _ ⟨g1, rfl, rfl⟩
  refine O.p (Pu.assign rfl) rfl ?_
  refine O.nil ?_
  refine J.seq ?_
  refine J.drawMix [(0, false), (1, false), (2, false), (3, true), (4, true), (5, false), (6, false), (7, true), (8, false)] [1, 2] [var gj [.int .i64 x0, .int .i64 x1, .int .i64 x2, .int .i64 x3, .int .i64 x4, .int .i64 x5, .int .i64 x6, .int .i64 ph, qv] 28, var gl [V] 24] Try.mixed (by kernel_rfl) (by decide) rfl ?_
  refine Mx.q rfl (Qt.ld rfl (Cel.var 0 rfl) (o := 0) (off := 0) rfl (Cut.agg [.int .i64 x0, .int .i64 x1, .int .i64 x2, .int .i64 x3, .int .i64 x4, .int .i64 x5, .int .i64 x6, .int .i64 ph, qv] Try.isAgg28 Try.sizeOf28 rfl rfl)) rfl ?_
  refine Mx.p rfl (Pu.build [(0, .agg #[.int .i64 x0, .int .i64 x1, .int .i64 x2, .int .i64 x3, .int .i64 x4, .int .i64 x5, .int .i64 x6, .int .i64 ph, qv])] [.int .i64 x0, .int .i64 x1, .int .i64 x2, .int .i64 x3, .int .i64 x4, .int .i64 x5, .int .i64 x6, .int .i64 ph, qv] #[(0, 9)] Try.runUnderlying88 Try.zeroValue88 (places88 Try.underlying88) rfl (by cases qv <;> first | (simp [Value.oneCell'] at hq; done) | (kernel_rfl; done))) rfl ?_
  refine Mx.q rfl (Qt.ld rfl (Cel.var 1 rfl) (o := 0) (off := 0) rfl (Cut.one Try.isAgg24 rfl)) rfl ?_
  refine Mx.l rfl (Lo.call [V] (by exact Try.call55) rfl (s_Compact V (l.mergeSort (fun x y => decide (x ≤ y))) (by first | omega | (rw [List.length_mergeSort]; omega) | (have h_ := Jb.rising_len (l := l); omega))) [3] [0, 1, 2] (by decide) rfl [var g1 [.int .i64 0, .int .i64 0, .int .i64 0, .int .i64 0, .int .i64 0, .int .i64 0, .int .i64 0, .int .i64 0, Value.slice none 0 0] 28, var gj [.int .i64 x0, .int .i64 x1, .int .i64 x2, .int .i64 x3, .int .i64 x4, .int .i64 x5, .int .i64 x6, .int .i64 ph, qv] 28, var gl [V] 24] rfl RoOk.nil) rfl ?_
  rintro v2 _ ⟨_, rfl, rfl⟩
  refine MxK.go [2, 3] [0, 1] [var gj [.int .i64 x0, .int .i64 x1, .int .i64 x2, .int .i64 x3, .int .i64 x4, .int .i64 x5, .int .i64 x6, .int .i64 ph, qv] 28, var gl [V] 24] (by decide) rfl (by decide) rfl ?_
  refine Mx.l rfl (Lo.call [.agg #[.int .i64 x0, .int .i64 x1, .int .i64 x2, .int .i64 x3, .int .i64 x4, .int .i64 x5, .int .i64 x6, .int .i64 ph, qv], v2] (by exact Try.call54) rfl (jb_wait x0 x1 x2 x3 x4 x5 x6 ph qv v2 (Go.Lib.compact (l.mergeSort (fun x y => decide (x ≤ y)))) hq (by rw [Jb.compact_sort]; exact fun h_ => hne (Jb.rising_nil.1 h_))) [0] [1, 2, 3] (by decide) rfl [var g1 [.int .i64 0, .int .i64 0, .int .i64 0, .int .i64 0, .int .i64 0, .int .i64 0, .int .i64 0, .int .i64 0, Value.slice none 0 0] 28, var gj [.int .i64 x0, .int .i64 x1, .int .i64 x2, .int .i64 x3, .int .i64 x4, .int .i64 x5, .int .i64 x6, .int .i64 ph, qv] 28, var gl [V] 24] rfl RoOk.nil) rfl ?_
  rintro _ _ ⟨_, ⟨rfl, rfl⟩, rfl⟩
  refine MxK.all [2, 3] [var gj [.int .i64 x0, .int .i64 x1, .int .i64 x2, .int .i64 x3, .int .i64 x4, .int .i64 x5, .int .i64 x6, .int .i64 ph, qv] 28, var gl [V] 24] (by decide) rfl (by kernel_rfl) ?_
  refine Mx.p rfl (Pu.extract rfl rfl) rfl ?_
  refine Mx.p rfl (Pu.extract rfl rfl) rfl ?_
  refine Mx.one rfl (fun _ h => by cases h <;> rfl) (Src.row 0 rfl) (fun hV4 => ?_)
  refine Mx.l0 rfl (Lo.store 1 (vs := [.int .i64 x0, .int .i64 x1, .int .i64 x2, .int .i64 x3, .int .i64 x4, .int .i64 x5, .int .i64 x6, .int .i64 2, v2]) [.int .i64 x0, .int .i64 x1, .int .i64 x2, .int .i64 x3, .int .i64 x4, .int .i64 x5, .int .i64 x6, .int .i64 2, v2] rfl rfl rfl (by exact Try.sizeOf28) rfl rfl (by simp only [List.all_cons, List.all_nil, Bool.and_true, hV4] <;> rfl) rfl rfl) ?_
  rintro _ _ rfl
  refine MxK.all [2, 3] [var gj [.int .i64 x0, .int .i64 x1, .int .i64 x2, .int .i64 x3, .int .i64 x4, .int .i64 x5, .int .i64 x6, .int .i64 ph, qv] 28, var gl [V] 24] (by decide) rfl (by kernel_rfl) ?_
  refine Mx.p rfl (Pu.assign rfl) rfl ?_
  refine Mx.nil ?_
  exact J.ret (Fin.ret (rs := [.cell 2 28, .tmp 3]) rfl [_, _] ⟨⟨_, _, 0, 0, _, rfl, (Cel.var 1 rfl), rfl, (Cut.agg [.int .i64 x0, .int .i64 x1, .int .i64 x2, .int .i64 x3, .int .i64 x4, .int .i64 x5, .int .i64 x6, .int .i64 2, v2] Try.isAgg28 Try.sizeOf28 rfl rfl)⟩, rfl, trivial⟩ [0] (by decide) [row v2 3 1 ((Go.Lib.compact (l.mergeSort (fun x y => decide (x ≤ y)))).map encZ)] rfl ⟨v2, rfl, (by rw [Jb.compact_sort])⟩)

set_option maxRecDepth 100000 in
theorem jb_done1E (gj gl : Nat) (x0 x1 x2 x3 x4 x5 x6 : Int) (ph : Int) (qv V : Value) (hq : Value.oneCell' qv = true) : Tri Try.prog 53 #[.pointer (some ⟨gj, 0, none⟩), .pointer (some ⟨gl, 0, none⟩)] [] [var gj [.int .i64 x0, .int .i64 x1, .int .i64 x2, .int .i64 x3, .int .i64 x4, .int .i64 x5, .int .i64 x6, .int .i64 ph, qv] 28, var gl [V] 24, row V 3 1 ((([] : List Int).mergeSort (fun x y => decide (x ≤ y))).map encZ)] (fun v L' => v = .tuple #[.agg #[.int .i64 0, .int .i64 0, .int .i64 0, .int .i64 0, .int .i64 0, .int .i64 0, .int .i64 0, .int .i64 0, Value.slice none 0 0], .int .i64 1] ∧ L' = []) := by
  refine Tri.enter (args := [.pointer (some ⟨gj, 0, none⟩), .pointer (some ⟨gl, 0, none⟩)]) (body := _) 11 Try.func53 rfl Try.ntmps53 rfl ?_
  intro w0
  refine J.seq ?_
  refine J.region ?_
  refine O.l (Lo.alloc [.int .i64 0, .int .i64 0, .int .i64 0, .int .i64 0, .int .i64 0, .int .i64 0, .int .i64 0, .int .i64 0, Value.slice none 0 0] (by exact Try.zeroValue28) rfl) rfl ?_
  rintro _ _ ⟨g1, rfl, rfl⟩
  refine O.p (Pu.assign rfl) rfl ?_
  refine O.nil ?_
  refine J.seq ?_
  refine J.drawMix [(0, false), (1, false), (2, false), (3, true), (4, true), (5, false), (6, false), (7, true), (8, false)] [1, 2] [var gj [.int .i64 x0, .int .i64 x1, .int .i64 x2, .int .i64 x3, .int .i64 x4, .int .i64 x5, .int .i64 x6, .int .i64 ph, qv] 28, var gl [V] 24] Try.mixed (by kernel_rfl) (by decide) rfl ?_
  refine Mx.q rfl (Qt.ld rfl (Cel.var 0 rfl) (o := 0) (off := 0) rfl (Cut.agg [.int .i64 x0, .int .i64 x1, .int .i64 x2, .int .i64 x3, .int .i64 x4, .int .i64 x5, .int .i64 x6, .int .i64 ph, qv] Try.isAgg28 Try.sizeOf28 rfl rfl)) rfl ?_
  refine Mx.p rfl (Pu.build [(0, .agg #[.int .i64 x0, .int .i64 x1, .int .i64 x2, .int .i64 x3, .int .i64 x4, .int .i64 x5, .int .i64 x6, .int .i64 ph, qv])] [.int .i64 x0, .int .i64 x1, .int .i64 x2, .int .i64 x3, .int .i64 x4, .int .i64 x5, .int .i64 x6, .int .i64 ph, qv] #[(0, 9)] Try.runUnderlying88 Try.zeroValue88 (places88 Try.underlying88) rfl (by cases qv <;> first | (simp [Value.oneCell'] at hq; done) | (kernel_rfl; done))) rfl ?_
  refine Mx.q rfl (Qt.ld rfl (Cel.var 1 rfl) (o := 0) (off := 0) rfl (Cut.one Try.isAgg24 rfl)) rfl ?_
  refine Mx.l rfl (Lo.call [V] (by exact Try.call55) rfl (s_Compact V (([] : List Int).mergeSort (fun x y => decide (x ≤ y))) (by (rw [List.length_mergeSort]; decide))) [3] [0, 1, 2] (by decide) rfl [var g1 [.int .i64 0, .int .i64 0, .int .i64 0, .int .i64 0, .int .i64 0, .int .i64 0, .int .i64 0, .int .i64 0, Value.slice none 0 0] 28, var gj [.int .i64 x0, .int .i64 x1, .int .i64 x2, .int .i64 x3, .int .i64 x4, .int .i64 x5, .int .i64 x6, .int .i64 ph, qv] 28, var gl [V] 24] rfl RoOk.nil) rfl ?_
  rintro v2 _ ⟨_, rfl, rfl⟩
  refine MxK.go [2, 3] [0, 1] [var gj [.int .i64 x0, .int .i64 x1, .int .i64 x2, .int .i64 x3, .int .i64 x4, .int .i64 x5, .int .i64 x6, .int .i64 ph, qv] 28, var gl [V] 24] (by decide) rfl (by decide) rfl ?_
  refine Mx.l rfl (Lo.call [.agg #[.int .i64 x0, .int .i64 x1, .int .i64 x2, .int .i64 x3, .int .i64 x4, .int .i64 x5, .int .i64 x6, .int .i64 ph, qv], v2] (by exact Try.call54) rfl (cast (congrArg (fun z => Tri Try.prog 54 #[.agg #[.int .i64 x0, .int .i64 x1, .int .i64 x2, .int .i64 x3, .int .i64 x4, .int .i64 x5, .int .i64 x6, .int .i64 ph, qv], v2] [] [row v2 3 1 (z.map encZ)] _) ((Jb.compact_sort []).symm : ([] : List Int) = Go.Lib.compact (([] : List Int).mergeSort (fun x y => decide (x ≤ y))))) (jb_waitE x0 x1 x2 x3 x4 x5 x6 ph qv v2 hq)) [0] [1, 2, 3] (by decide) rfl [var g1 [.int .i64 0, .int .i64 0, .int .i64 0, .int .i64 0, .int .i64 0, .int .i64 0, .int .i64 0, .int .i64 0, Value.slice none 0 0] 28, var gj [.int .i64 x0, .int .i64 x1, .int .i64 x2, .int .i64 x3, .int .i64 x4, .int .i64 x5, .int .i64 x6, .int .i64 ph, qv] 28, var gl [V] 24] rfl RoOk.nil) rfl ?_
  rintro _ _ ⟨_, ⟨rfl, rfl⟩, rfl⟩
  refine MxK.all [1, 2] [var gj [.int .i64 x0, .int .i64 x1, .int .i64 x2, .int .i64 x3, .int .i64 x4, .int .i64 x5, .int .i64 x6, .int .i64 ph, qv] 28, var gl [V] 24] (by decide) rfl (by kernel_rfl) ?_
  refine Mx.p rfl (Pu.extract rfl rfl) rfl ?_
  refine Mx.p rfl (Pu.extract rfl rfl) rfl ?_
  refine Mx.l0 rfl (Lo.store 0 (vs := [.int .i64 0, .int .i64 0, .int .i64 0, .int .i64 0, .int .i64 0, .int .i64 0, .int .i64 0, .int .i64 0, Value.slice none 0 0]) [.int .i64 0, .int .i64 0, .int .i64 0, .int .i64 0, .int .i64 0, .int .i64 0, .int .i64 0, .int .i64 0, Value.slice none 0 0] rfl rfl rfl (by exact Try.sizeOf28) rfl rfl rfl rfl rfl) ?_
  rintro _ _ rfl
  refine MxK.all [1, 2] [var gj [.int .i64 x0, .int .i64 x1, .int .i64 x2, .int .i64 x3, .int .i64 x4, .int .i64 x5, .int .i64 x6, .int .i64 ph, qv] 28, var gl [V] 24] (by decide) rfl (by kernel_rfl) ?_
  refine Mx.p rfl (Pu.assign rfl) rfl ?_
  refine Mx.nil ?_
  exact J.ret (Fin.ret (rs := [.cell 2 28, .tmp 3]) rfl [_, _] ⟨⟨_, _, 0, 0, _, rfl, (Cel.var 0 rfl), rfl, (Cut.agg [.int .i64 0, .int .i64 0, .int .i64 0, .int .i64 0, .int .i64 0, .int .i64 0, .int .i64 0, .int .i64 0, Value.slice none 0 0] Try.isAgg28 Try.sizeOf28 rfl rfl)⟩, rfl, trivial⟩ [] (by decide) [] rfl ⟨rfl, rfl⟩)

set_option maxRecDepth 100000 in
theorem jb_worksNe (gj gl : Nat) (x0 x1 x2 x3 x4 x5 x6 : Int) (qv V : Value) (l : List Int) (hq : Value.oneCell' qv = true) (hl : l.length ≤ 1000) (hne : l ≠ []) : Tri Try.prog 52 #[.agg #[.int .i64 x0, .int .i64 x1, .int .i64 x2, .int .i64 x3, .int .i64 x4, .int .i64 x5, .int .i64 x6, .int .i64 1, qv], .func (.func 53) #[] #[.pointer (some ⟨gj, 0, none⟩), .pointer (some ⟨gl, 0, none⟩)]] [] [var gj [.int .i64 x0, .int .i64 x1, .int .i64 x2, .int .i64 x3, .int .i64 x4, .int .i64 x5, .int .i64 x6, .int .i64 1, qv] 28, var gl [V] 24, row V 3 1 ((l.mergeSort (fun x y => decide (x ≤ y))).map encZ)] (fun v L' => ∃ V', v = .tuple #[.agg #[.int .i64 x0, .int .i64 x1, .int .i64 x2, .int .i64 x3, .int .i64 x4, .int .i64 x5, .int .i64 x6, .int .i64 2, V'], .int .i64 0, .int .i64 0] ∧ L' = [row V' 3 1 ((Jb.rising l).map encZ)]) := by
  refine Tri.enter (args := [.agg #[.int .i64 x0, .int .i64 x1, .int .i64 x2, .int .i64 x3, .int .i64 x4, .int .i64 x5, .int .i64 x6, .int .i64 1, qv], .func (.func 53) #[] #[.pointer (some ⟨gj, 0, none⟩), .pointer (some ⟨gl, 0, none⟩)]]) (body := _) 20 Try.func52 rfl Try.ntmps52 rfl ?_
  intro w0
  refine J.seq ?_
  refine J.region ?_
  refine O.l (Lo.box [.int .i64 x0, .int .i64 x1, .int .i64 x2, .int .i64 x3, .int .i64 x4, .int .i64 x5, .int .i64 x6, .int .i64 1, qv] rfl rfl) rfl ?_
  rintro _ _ ⟨g1, rfl, rfl⟩
  refine O.l (Lo.alloc [.int .i64 0, .int .i64 0, .int .i64 0, .int .i64 0, .int .i64 0, .int .i64 0, .int .i64 0, .int .i64 0, Value.slice none 0 0] (by exact Try.zeroValue28) rfl) rfl ?_
  rintro _ _ ⟨g2, rfl, rfl⟩
  refine O.p (Pu.assign rfl) rfl ?_
  refine O.p (Pu.assign rfl) rfl ?_
  refine O.nil ?_
  refine J.seq ?_
  refine J.seq ?_
  refine J.region ?_
  refine O.p (Pu.fieldAddr (off' := 7) Try.runUnderlying28 rfl Try.sizeOf3 rfl rfl rfl) rfl ?_
  refine O.q (Qt.ld rfl (Cel.var 1 rfl) (o := 0) (off := 7) rfl (Cut.one Try.isAgg3 rfl)) rfl ?_
  refine O.p (Pu.neq rfl rfl) rfl ?_
  refine O.nil ?_
  refine J.condF rfl rfl ?_
  refine J.skip ?_
  refine J.seq ?_
  refine J.region ?_
  refine O.p (Pu.move rfl) rfl ?_
  refine O.l (Lo.callV (vs := []) (caps := [.pointer (some ⟨gj, 0, none⟩), .pointer (some ⟨gl, 0, none⟩)]) (by exact Try.call53) rfl rfl (jb_done1 gj gl x0 x1 x2 x3 x4 x5 x6 1 qv V l hq (by omega) hne) [2, 3, 4] [0, 1] (by decide) rfl [var g2 [.int .i64 0, .int .i64 0, .int .i64 0, .int .i64 0, .int .i64 0, .int .i64 0, .int .i64 0, .int .i64 0, Value.slice none 0 0] 28, var g1 [.int .i64 x0, .int .i64 x1, .int .i64 x2, .int .i64 x3, .int .i64 x4, .int .i64 x5, .int .i64 x6, .int .i64 1, qv] 28] rfl RoOk.nil) rfl ?_
  rintro _ _ ⟨_, ⟨V3, rfl, rfl⟩, rfl⟩
  refine O.p (Pu.move rfl) rfl ?_
  refine O.p (Pu.extract rfl rfl) rfl ?_
  refine O.p (Pu.extract rfl rfl) rfl ?_
  refine O.l (Lo.alloc [.int .i64 0, .int .i64 0, .int .i64 0, .int .i64 0, .int .i64 0, .int .i64 0, .int .i64 0, .int .i64 0, Value.slice none 0 0] (by exact Try.zeroValue28) rfl) rfl ?_
  rintro _ _ ⟨g5, rfl, rfl⟩
  refine O.one (Src.row 1 rfl) (fun hV6 => ?_)
  refine O.l0 (Lo.store 0 (vs := [.int .i64 x0, .int .i64 x1, .int .i64 x2, .int .i64 x3, .int .i64 x4, .int .i64 x5, .int .i64 x6, .int .i64 2, V3]) [.int .i64 x0, .int .i64 x1, .int .i64 x2, .int .i64 x3, .int .i64 x4, .int .i64 x5, .int .i64 x6, .int .i64 2, V3] rfl rfl rfl (by exact Try.sizeOf28) rfl rfl (by simp only [List.all_cons, List.all_nil, Bool.and_true, hV6] <;> rfl) rfl rfl) ?_
  rintro _ _ rfl
  refine O.p (Pu.assign rfl) rfl ?_
  refine O.nil ?_
  refine J.seq ?_
  refine J.region ?_
  refine O.q (Qt.ld rfl (Cel.var 0 rfl) (o := 0) (off := 0) rfl (Cut.agg [.int .i64 x0, .int .i64 x1, .int .i64 x2, .int .i64 x3, .int .i64 x4, .int .i64 x5, .int .i64 x6, .int .i64 2, V3] Try.isAgg28 Try.sizeOf28 rfl rfl)) rfl ?_
  refine O.p (Pu.move rfl) rfl ?_
  refine O.l0 (Lo.store 2 (vs := [.int .i64 x0, .int .i64 x1, .int .i64 x2, .int .i64 x3, .int .i64 x4, .int .i64 x5, .int .i64 x6, .int .i64 2, V3]) [.int .i64 x0, .int .i64 x1, .int .i64 x2, .int .i64 x3, .int .i64 x4, .int .i64 x5, .int .i64 x6, .int .i64 2, V3] rfl rfl rfl (by exact Try.sizeOf28) rfl rfl (by simp only [List.all_cons, List.all_nil, Bool.and_true, hV6] <;> rfl) rfl rfl) ?_
  rintro _ _ rfl
  refine O.p (Pu.assign rfl) rfl ?_
  refine O.p (Pu.assign rfl) rfl ?_
  refine O.nil ?_
  exact J.ret (Fin.ret (rs := [.cell 4 28, .tmp 5, .tmp 6]) rfl [_, _, _] ⟨⟨_, _, 0, 0, _, rfl, (Cel.var 2 rfl), rfl, (Cut.agg [.int .i64 x0, .int .i64 x1, .int .i64 x2, .int .i64 x3, .int .i64 x4, .int .i64 x5, .int .i64 x6, .int .i64 2, V3] Try.isAgg28 Try.sizeOf28 rfl rfl)⟩, rfl, rfl, trivial⟩ [1] (by decide) [row V3 3 1 ((Jb.rising l).map encZ)] rfl ⟨V3, rfl, rfl⟩)

set_option maxRecDepth 100000 in
theorem jb_worksE (gj gl : Nat) (x0 x1 x2 x3 x4 x5 x6 : Int) (qv V : Value) (hq : Value.oneCell' qv = true) : Tri Try.prog 52 #[.agg #[.int .i64 x0, .int .i64 x1, .int .i64 x2, .int .i64 x3, .int .i64 x4, .int .i64 x5, .int .i64 x6, .int .i64 1, qv], .func (.func 53) #[] #[.pointer (some ⟨gj, 0, none⟩), .pointer (some ⟨gl, 0, none⟩)]] [] [var gj [.int .i64 x0, .int .i64 x1, .int .i64 x2, .int .i64 x3, .int .i64 x4, .int .i64 x5, .int .i64 x6, .int .i64 1, qv] 28, var gl [V] 24, row V 3 1 ((([] : List Int).mergeSort (fun x y => decide (x ≤ y))).map encZ)] (fun v L' => v = .tuple #[.agg #[.int .i64 0, .int .i64 0, .int .i64 0, .int .i64 0, .int .i64 0, .int .i64 0, .int .i64 0, .int .i64 0, Value.slice none 0 0], .int .i64 1, .int .i64 0] ∧ L' = []) := by
  refine Tri.enter (args := [.agg #[.int .i64 x0, .int .i64 x1, .int .i64 x2, .int .i64 x3, .int .i64 x4, .int .i64 x5, .int .i64 x6, .int .i64 1, qv], .func (.func 53) #[] #[.pointer (some ⟨gj, 0, none⟩), .pointer (some ⟨gl, 0, none⟩)]]) (body := _) 20 Try.func52 rfl Try.ntmps52 rfl ?_
  intro w0
  refine J.seq ?_
  refine J.region ?_
  refine O.l (Lo.box [.int .i64 x0, .int .i64 x1, .int .i64 x2, .int .i64 x3, .int .i64 x4, .int .i64 x5, .int .i64 x6, .int .i64 1, qv] rfl rfl) rfl ?_
  rintro _ _ ⟨g1, rfl, rfl⟩
  refine O.l (Lo.alloc [.int .i64 0, .int .i64 0, .int .i64 0, .int .i64 0, .int .i64 0, .int .i64 0, .int .i64 0, .int .i64 0, Value.slice none 0 0] (by exact Try.zeroValue28) rfl) rfl ?_
  rintro _ _ ⟨g2, rfl, rfl⟩
  refine O.p (Pu.assign rfl) rfl ?_
  refine O.p (Pu.assign rfl) rfl ?_
  refine O.nil ?_
  refine J.seq ?_
  refine J.seq ?_
  refine J.region ?_
  refine O.p (Pu.fieldAddr (off' := 7) Try.runUnderlying28 rfl Try.sizeOf3 rfl rfl rfl) rfl ?_
  refine O.q (Qt.ld rfl (Cel.var 1 rfl) (o := 0) (off := 7) rfl (Cut.one Try.isAgg3 rfl)) rfl ?_
  refine O.p (Pu.neq rfl rfl) rfl ?_
  refine O.nil ?_
  refine J.condF rfl rfl ?_
  refine J.skip ?_
  refine J.seq ?_
  refine J.region ?_
  refine O.p (Pu.move rfl) rfl ?_
  refine O.l (Lo.callV (vs := []) (caps := [.pointer (some ⟨gj, 0, none⟩), .pointer (some ⟨gl, 0, none⟩)]) (by exact Try.call53) rfl rfl (jb_done1E gj gl x0 x1 x2 x3 x4 x5 x6 1 qv V hq) [2, 3, 4] [0, 1] (by decide) rfl [var g2 [.int .i64 0, .int .i64 0, .int .i64 0, .int .i64 0, .int .i64 0, .int .i64 0, .int .i64 0, .int .i64 0, Value.slice none 0 0] 28, var g1 [.int .i64 x0, .int .i64 x1, .int .i64 x2, .int .i64 x3, .int .i64 x4, .int .i64 x5, .int .i64 x6, .int .i64 1, qv] 28] rfl RoOk.nil) rfl ?_
  rintro _ _ ⟨_, ⟨rfl, rfl⟩, rfl⟩
  refine O.p (Pu.move rfl) rfl ?_
  refine O.p (Pu.extract rfl rfl) rfl ?_
  refine O.p (Pu.extract rfl rfl) rfl ?_
  refine O.l (Lo.alloc [.int .i64 0, .int .i64 0, .int .i64 0, .int .i64 0, .int .i64 0, .int .i64 0, .int .i64 0, .int .i64 0, Value.slice none 0 0] (by exact Try.zeroValue28) rfl) rfl ?_
  rintro _ _ ⟨g4, rfl, rfl⟩
  refine O.l0 (Lo.store 0 (vs := [.int .i64 0, .int .i64 0, .int .i64 0, .int .i64 0, .int .i64 0, .int .i64 0, .int .i64 0, .int .i64 0, Value.slice none 0 0]) [.int .i64 0, .int .i64 0, .int .i64 0, .int .i64 0, .int .i64 0, .int .i64 0, .int .i64 0, .int .i64 0, Value.slice none 0 0] rfl rfl rfl (by exact Try.sizeOf28) rfl rfl rfl rfl rfl) ?_
  rintro _ _ rfl
  refine O.p (Pu.assign rfl) rfl ?_
  refine O.nil ?_
  refine J.seq ?_
  refine J.region ?_
  refine O.q (Qt.ld rfl (Cel.var 0 rfl) (o := 0) (off := 0) rfl (Cut.agg [.int .i64 0, .int .i64 0, .int .i64 0, .int .i64 0, .int .i64 0, .int .i64 0, .int .i64 0, .int .i64 0, Value.slice none 0 0] Try.isAgg28 Try.sizeOf28 rfl rfl)) rfl ?_
  refine O.p (Pu.move rfl) rfl ?_
  refine O.l0 (Lo.store 1 (vs := [.int .i64 0, .int .i64 0, .int .i64 0, .int .i64 0, .int .i64 0, .int .i64 0, .int .i64 0, .int .i64 0, Value.slice none 0 0]) [.int .i64 0, .int .i64 0, .int .i64 0, .int .i64 0, .int .i64 0, .int .i64 0, .int .i64 0, .int .i64 0, Value.slice none 0 0] rfl rfl rfl (by exact Try.sizeOf28) rfl rfl rfl rfl rfl) ?_
  rintro _ _ rfl
  refine O.p (Pu.assign rfl) rfl ?_
  refine O.p (Pu.assign rfl) rfl ?_
  refine O.nil ?_
  exact J.ret (Fin.ret (rs := [.cell 4 28, .tmp 5, .tmp 6]) rfl [_, _, _] ⟨⟨_, _, 0, 0, _, rfl, (Cel.var 1 rfl), rfl, (Cut.agg [.int .i64 0, .int .i64 0, .int .i64 0, .int .i64 0, .int .i64 0, .int .i64 0, .int .i64 0, .int .i64 0, Value.slice none 0 0] Try.isAgg28 Try.sizeOf28 rfl rfl)⟩, rfl, rfl, trivial⟩ [] (by decide) [] rfl ⟨rfl, rfl⟩)

set_option maxRecDepth 100000 in
theorem jb_worksNo (gj gl : Nat) (x0 x1 x2 x3 x4 x5 x6 : Int) (ph : Int) (qv : Value) (hq : Value.oneCell' qv = true) (hp : ph ≠ 1) : Tri Try.prog 52 #[.agg #[.int .i64 x0, .int .i64 x1, .int .i64 x2, .int .i64 x3, .int .i64 x4, .int .i64 x5, .int .i64 x6, .int .i64 ph, qv], .func (.func 53) #[] #[.pointer (some ⟨gj, 0, none⟩), .pointer (some ⟨gl, 0, none⟩)]] [] [] (fun v L' => v = .tuple #[.agg #[.int .i64 0, .int .i64 0, .int .i64 0, .int .i64 0, .int .i64 0, .int .i64 0, .int .i64 0, .int .i64 0, Value.slice none 0 0], .int .i64 0, .int .i64 12] ∧ L' = []) := by
  refine Tri.enter (args := [.agg #[.int .i64 x0, .int .i64 x1, .int .i64 x2, .int .i64 x3, .int .i64 x4, .int .i64 x5, .int .i64 x6, .int .i64 ph, qv], .func (.func 53) #[] #[.pointer (some ⟨gj, 0, none⟩), .pointer (some ⟨gl, 0, none⟩)]]) (body := _) 20 Try.func52 rfl Try.ntmps52 rfl ?_
  intro w0
  refine J.seq ?_
  refine J.region ?_
  refine O.l (Lo.box [.int .i64 x0, .int .i64 x1, .int .i64 x2, .int .i64 x3, .int .i64 x4, .int .i64 x5, .int .i64 x6, .int .i64 ph, qv] rfl rfl) rfl ?_
  rintro _ _ ⟨g1, rfl, rfl⟩
  refine O.l (Lo.alloc [.int .i64 0, .int .i64 0, .int .i64 0, .int .i64 0, .int .i64 0, .int .i64 0, .int .i64 0, .int .i64 0, Value.slice none 0 0] (by exact Try.zeroValue28) rfl) rfl ?_
  rintro _ _ ⟨g2, rfl, rfl⟩
  refine O.p (Pu.assign rfl) rfl ?_
  refine O.p (Pu.assign rfl) rfl ?_
  refine O.nil ?_
  refine J.seq ?_
  refine J.seq ?_
  refine J.region ?_
  refine O.p (Pu.fieldAddr (off' := 7) Try.runUnderlying28 rfl Try.sizeOf3 rfl rfl rfl) rfl ?_
  refine O.q (Qt.ld rfl (Cel.var 1 rfl) (o := 0) (off := 7) rfl (Cut.one Try.isAgg3 rfl)) rfl ?_
  refine O.p (Pu.neq rfl rfl) rfl ?_
  refine O.nil ?_
  refine J.condT rfl (decide_eq_true hp) ?_
  refine J.seq ?_
  refine J.region ?_
  refine O.p (Pu.build [] [.int .i64 0, .int .i64 0, .int .i64 0, .int .i64 0, .int .i64 0, .int .i64 0, .int .i64 0, .int .i64 0, Value.slice none 0 0] #[(0, 7), (7, 1), (8, 1)] Try.runUnderlying28 Try.zeroValue28 (places28 Try.underlying28) rfl (by kernel_rfl)) rfl ?_
  refine O.l0 (Lo.store 0 (vs := [.int .i64 0, .int .i64 0, .int .i64 0, .int .i64 0, .int .i64 0, .int .i64 0, .int .i64 0, .int .i64 0, Value.slice none 0 0]) [.int .i64 0, .int .i64 0, .int .i64 0, .int .i64 0, .int .i64 0, .int .i64 0, .int .i64 0, .int .i64 0, Value.slice none 0 0] rfl rfl rfl (by exact Try.sizeOf28) rfl rfl rfl rfl rfl) ?_
  rintro _ _ rfl
  refine O.p (Pu.assign rfl) rfl ?_
  refine O.p (Pu.assign rfl) rfl ?_
  refine O.nil ?_
  exact J.ret (Fin.ret (rs := [.cell 4 28, .tmp 5, .tmp 6]) rfl [_, _, _] ⟨⟨_, _, 0, 0, _, rfl, (Cel.var 0 rfl), rfl, (Cut.agg [.int .i64 0, .int .i64 0, .int .i64 0, .int .i64 0, .int .i64 0, .int .i64 0, .int .i64 0, .int .i64 0, Value.slice none 0 0] Try.isAgg28 Try.sizeOf28 rfl rfl)⟩, rfl, rfl, trivial⟩ [] (by decide) [] rfl ⟨rfl, rfl⟩)

set_option maxRecDepth 100000 in
theorem jb_breaks (x0 x1 x2 x3 x4 x5 x6 : Int) (ph : Int) (qv : Value) (hq : Value.oneCell' qv = true) : Tri Try.prog 61 #[.agg #[.int .i64 x0, .int .i64 x1, .int .i64 x2, .int .i64 x3, .int .i64 x4, .int .i64 x5, .int .i64 x6, .int .i64 ph, qv]] [] [] (fun v L' => v = .tuple #[.agg #[.int .i64 0, .int .i64 0, .int .i64 0, .int .i64 0, .int .i64 0, .int .i64 0, .int .i64 0, .int .i64 0, Value.slice none 0 0], .int .i64 10] ∧ L' = []) := by
  refine Tri.enter (args := [.agg #[.int .i64 x0, .int .i64 x1, .int .i64 x2, .int .i64 x3, .int .i64 x4, .int .i64 x5, .int .i64 x6, .int .i64 ph, qv]]) (body := _) 7 Try.func61 rfl Try.ntmps61 rfl ?_
  intro w0
  refine J.seq ?_
  refine J.region ?_
  refine O.l (Lo.box [.int .i64 x0, .int .i64 x1, .int .i64 x2, .int .i64 x3, .int .i64 x4, .int .i64 x5, .int .i64 x6, .int .i64 ph, qv] rfl rfl) rfl ?_
  rintro _ _ ⟨g1, rfl, rfl⟩
  refine O.l (Lo.alloc [.int .i64 0, .int .i64 0, .int .i64 0, .int .i64 0, .int .i64 0, .int .i64 0, .int .i64 0, .int .i64 0, Value.slice none 0 0] (by exact Try.zeroValue28) rfl) rfl ?_
  rintro _ _ ⟨g2, rfl, rfl⟩
  refine O.p (Pu.assign rfl) rfl ?_
  refine O.nil ?_
  refine J.seq ?_
  refine J.region ?_
  refine O.l (Lo.call [.int .i64 10] (by exact Try.call57) rfl (jb_over 10) [] [0, 1] (by decide) rfl [var g2 [.int .i64 0, .int .i64 0, .int .i64 0, .int .i64 0, .int .i64 0, .int .i64 0, .int .i64 0, .int .i64 0, Value.slice none 0 0] 28, var g1 [.int .i64 x0, .int .i64 x1, .int .i64 x2, .int .i64 x3, .int .i64 x4, .int .i64 x5, .int .i64 x6, .int .i64 ph, qv] 88] rfl RoOk.nil) rfl ?_
  rintro _ _ ⟨_, ⟨rfl, rfl⟩, rfl⟩
  refine O.p (Pu.extract rfl rfl) rfl ?_
  refine O.p (Pu.extract rfl rfl) rfl ?_
  refine O.l0 (Lo.store 0 (vs := [.int .i64 0, .int .i64 0, .int .i64 0, .int .i64 0, .int .i64 0, .int .i64 0, .int .i64 0, .int .i64 0, Value.slice none 0 0]) [.int .i64 0, .int .i64 0, .int .i64 0, .int .i64 0, .int .i64 0, .int .i64 0, .int .i64 0, .int .i64 0, Value.slice none 0 0] rfl rfl rfl (by exact Try.sizeOf28) rfl rfl rfl rfl rfl) ?_
  rintro _ _ rfl
  refine O.p (Pu.assign rfl) rfl ?_
  refine O.nil ?_
  exact J.ret (Fin.ret (rs := [.cell 2 28, .tmp 3]) rfl [_, _] ⟨⟨_, _, 0, 0, _, rfl, (Cel.var 0 rfl), rfl, (Cut.agg [.int .i64 0, .int .i64 0, .int .i64 0, .int .i64 0, .int .i64 0, .int .i64 0, .int .i64 0, .int .i64 0, Value.slice none 0 0] Try.isAgg28 Try.sizeOf28 rfl rfl)⟩, rfl, trivial⟩ [] (by decide) [] rfl ⟨rfl, rfl⟩)

set_option maxRecDepth 100000 in
theorem jb_worksBr (x0 x1 x2 x3 x4 x5 x6 : Int) (qv : Value) (hq : Value.oneCell' qv = true) : Tri Try.prog 52 #[.agg #[.int .i64 x0, .int .i64 x1, .int .i64 x2, .int .i64 x3, .int .i64 x4, .int .i64 x5, .int .i64 x6, .int .i64 1, qv], .func (.func 61) #[.agg #[.int .i64 x0, .int .i64 x1, .int .i64 x2, .int .i64 x3, .int .i64 x4, .int .i64 x5, .int .i64 x6, .int .i64 1, qv]] #[]] [] [] (fun v L' => v = .tuple #[.agg #[.int .i64 0, .int .i64 0, .int .i64 0, .int .i64 0, .int .i64 0, .int .i64 0, .int .i64 0, .int .i64 0, Value.slice none 0 0], .int .i64 10, .int .i64 0] ∧ L' = []) := by
  refine Tri.enter (args := [.agg #[.int .i64 x0, .int .i64 x1, .int .i64 x2, .int .i64 x3, .int .i64 x4, .int .i64 x5, .int .i64 x6, .int .i64 1, qv], .func (.func 61) #[.agg #[.int .i64 x0, .int .i64 x1, .int .i64 x2, .int .i64 x3, .int .i64 x4, .int .i64 x5, .int .i64 x6, .int .i64 1, qv]] #[]]) (body := _) 20 Try.func52 rfl Try.ntmps52 rfl ?_
  intro w0
  refine J.seq ?_
  refine J.region ?_
  refine O.l (Lo.box [.int .i64 x0, .int .i64 x1, .int .i64 x2, .int .i64 x3, .int .i64 x4, .int .i64 x5, .int .i64 x6, .int .i64 1, qv] rfl rfl) rfl ?_
  rintro _ _ ⟨g1, rfl, rfl⟩
  refine O.l (Lo.alloc [.int .i64 0, .int .i64 0, .int .i64 0, .int .i64 0, .int .i64 0, .int .i64 0, .int .i64 0, .int .i64 0, Value.slice none 0 0] (by exact Try.zeroValue28) rfl) rfl ?_
  rintro _ _ ⟨g2, rfl, rfl⟩
  refine O.p (Pu.assign rfl) rfl ?_
  refine O.p (Pu.assign rfl) rfl ?_
  refine O.nil ?_
  refine J.seq ?_
  refine J.seq ?_
  refine J.region ?_
  refine O.p (Pu.fieldAddr (off' := 7) Try.runUnderlying28 rfl Try.sizeOf3 rfl rfl rfl) rfl ?_
  refine O.q (Qt.ld rfl (Cel.var 1 rfl) (o := 0) (off := 7) rfl (Cut.one Try.isAgg3 rfl)) rfl ?_
  refine O.p (Pu.neq rfl rfl) rfl ?_
  refine O.nil ?_
  refine J.condF rfl rfl ?_
  refine J.skip ?_
  refine J.seq ?_
  refine J.region ?_
  refine O.p (Pu.move rfl) rfl ?_
  refine O.l (Lo.callB (first := [.agg #[.int .i64 x0, .int .i64 x1, .int .i64 x2, .int .i64 x3, .int .i64 x4, .int .i64 x5, .int .i64 x6, .int .i64 1, qv]]) (vs := []) (caps := []) (by exact Try.call61) rfl rfl (jb_breaks x0 x1 x2 x3 x4 x5 x6 1 qv hq) [] [0, 1] (by decide) rfl [var g2 [.int .i64 0, .int .i64 0, .int .i64 0, .int .i64 0, .int .i64 0, .int .i64 0, .int .i64 0, .int .i64 0, Value.slice none 0 0] 28, var g1 [.int .i64 x0, .int .i64 x1, .int .i64 x2, .int .i64 x3, .int .i64 x4, .int .i64 x5, .int .i64 x6, .int .i64 1, qv] 28] rfl RoOk.nil) rfl ?_
  rintro _ _ ⟨_, ⟨rfl, rfl⟩, rfl⟩
  refine O.p (Pu.move rfl) rfl ?_
  refine O.p (Pu.extract rfl rfl) rfl ?_
  refine O.p (Pu.extract rfl rfl) rfl ?_
  refine O.l (Lo.alloc [.int .i64 0, .int .i64 0, .int .i64 0, .int .i64 0, .int .i64 0, .int .i64 0, .int .i64 0, .int .i64 0, Value.slice none 0 0] (by exact Try.zeroValue28) rfl) rfl ?_
  rintro _ _ ⟨g4, rfl, rfl⟩
  refine O.l0 (Lo.store 0 (vs := [.int .i64 0, .int .i64 0, .int .i64 0, .int .i64 0, .int .i64 0, .int .i64 0, .int .i64 0, .int .i64 0, Value.slice none 0 0]) [.int .i64 0, .int .i64 0, .int .i64 0, .int .i64 0, .int .i64 0, .int .i64 0, .int .i64 0, .int .i64 0, Value.slice none 0 0] rfl rfl rfl (by exact Try.sizeOf28) rfl rfl rfl rfl rfl) ?_
  rintro _ _ rfl
  refine O.p (Pu.assign rfl) rfl ?_
  refine O.nil ?_
  refine J.seq ?_
  refine J.region ?_
  refine O.q (Qt.ld rfl (Cel.var 0 rfl) (o := 0) (off := 0) rfl (Cut.agg [.int .i64 0, .int .i64 0, .int .i64 0, .int .i64 0, .int .i64 0, .int .i64 0, .int .i64 0, .int .i64 0, Value.slice none 0 0] Try.isAgg28 Try.sizeOf28 rfl rfl)) rfl ?_
  refine O.p (Pu.move rfl) rfl ?_
  refine O.l0 (Lo.store 1 (vs := [.int .i64 0, .int .i64 0, .int .i64 0, .int .i64 0, .int .i64 0, .int .i64 0, .int .i64 0, .int .i64 0, Value.slice none 0 0]) [.int .i64 0, .int .i64 0, .int .i64 0, .int .i64 0, .int .i64 0, .int .i64 0, .int .i64 0, .int .i64 0, Value.slice none 0 0] rfl rfl rfl (by exact Try.sizeOf28) rfl rfl rfl rfl rfl) ?_
  rintro _ _ rfl
  refine O.p (Pu.assign rfl) rfl ?_
  refine O.p (Pu.assign rfl) rfl ?_
  refine O.nil ?_
  exact J.ret (Fin.ret (rs := [.cell 4 28, .tmp 5, .tmp 6]) rfl [_, _, _] ⟨⟨_, _, 0, 0, _, rfl, (Cel.var 1 rfl), rfl, (Cut.agg [.int .i64 0, .int .i64 0, .int .i64 0, .int .i64 0, .int .i64 0, .int .i64 0, .int .i64 0, .int .i64 0, Value.slice none 0 0] Try.isAgg28 Try.sizeOf28 rfl rfl)⟩, rfl, rfl, trivial⟩ [] (by decide) [] rfl ⟨rfl, rfl⟩)

set_option maxRecDepth 100000 in
theorem jb_worksBrNo (x0 x1 x2 x3 x4 x5 x6 : Int) (ph : Int) (qv : Value) (hq : Value.oneCell' qv = true) (hp : ph ≠ 1) : Tri Try.prog 52 #[.agg #[.int .i64 x0, .int .i64 x1, .int .i64 x2, .int .i64 x3, .int .i64 x4, .int .i64 x5, .int .i64 x6, .int .i64 ph, qv], .func (.func 61) #[.agg #[.int .i64 x0, .int .i64 x1, .int .i64 x2, .int .i64 x3, .int .i64 x4, .int .i64 x5, .int .i64 x6, .int .i64 ph, qv]] #[]] [] [] (fun v L' => v = .tuple #[.agg #[.int .i64 0, .int .i64 0, .int .i64 0, .int .i64 0, .int .i64 0, .int .i64 0, .int .i64 0, .int .i64 0, Value.slice none 0 0], .int .i64 0, .int .i64 12] ∧ L' = []) := by
  refine Tri.enter (args := [.agg #[.int .i64 x0, .int .i64 x1, .int .i64 x2, .int .i64 x3, .int .i64 x4, .int .i64 x5, .int .i64 x6, .int .i64 ph, qv], .func (.func 61) #[.agg #[.int .i64 x0, .int .i64 x1, .int .i64 x2, .int .i64 x3, .int .i64 x4, .int .i64 x5, .int .i64 x6, .int .i64 ph, qv]] #[]]) (body := _) 20 Try.func52 rfl Try.ntmps52 rfl ?_
  intro w0
  refine J.seq ?_
  refine J.region ?_
  refine O.l (Lo.box [.int .i64 x0, .int .i64 x1, .int .i64 x2, .int .i64 x3, .int .i64 x4, .int .i64 x5, .int .i64 x6, .int .i64 ph, qv] rfl rfl) rfl ?_
  rintro _ _ ⟨g1, rfl, rfl⟩
  refine O.l (Lo.alloc [.int .i64 0, .int .i64 0, .int .i64 0, .int .i64 0, .int .i64 0, .int .i64 0, .int .i64 0, .int .i64 0, Value.slice none 0 0] (by exact Try.zeroValue28) rfl) rfl ?_
  rintro _ _ ⟨g2, rfl, rfl⟩
  refine O.p (Pu.assign rfl) rfl ?_
  refine O.p (Pu.assign rfl) rfl ?_
  refine O.nil ?_
  refine J.seq ?_
  refine J.seq ?_
  refine J.region ?_
  refine O.p (Pu.fieldAddr (off' := 7) Try.runUnderlying28 rfl Try.sizeOf3 rfl rfl rfl) rfl ?_
  refine O.q (Qt.ld rfl (Cel.var 1 rfl) (o := 0) (off := 7) rfl (Cut.one Try.isAgg3 rfl)) rfl ?_
  refine O.p (Pu.neq rfl rfl) rfl ?_
  refine O.nil ?_
  refine J.condT rfl (decide_eq_true hp) ?_
  refine J.seq ?_
  refine J.region ?_
  refine O.p (Pu.build [] [.int .i64 0, .int .i64 0, .int .i64 0, .int .i64 0, .int .i64 0, .int .i64 0, .int .i64 0, .int .i64 0, Value.slice none 0 0] #[(0, 7), (7, 1), (8, 1)] Try.runUnderlying28 Try.zeroValue28 (places28 Try.underlying28) rfl (by kernel_rfl)) rfl ?_
  refine O.l0 (Lo.store 0 (vs := [.int .i64 0, .int .i64 0, .int .i64 0, .int .i64 0, .int .i64 0, .int .i64 0, .int .i64 0, .int .i64 0, Value.slice none 0 0]) [.int .i64 0, .int .i64 0, .int .i64 0, .int .i64 0, .int .i64 0, .int .i64 0, .int .i64 0, .int .i64 0, Value.slice none 0 0] rfl rfl rfl (by exact Try.sizeOf28) rfl rfl rfl rfl rfl) ?_
  rintro _ _ rfl
  refine O.p (Pu.assign rfl) rfl ?_
  refine O.p (Pu.assign rfl) rfl ?_
  refine O.nil ?_
  exact J.ret (Fin.ret (rs := [.cell 4 28, .tmp 5, .tmp 6]) rfl [_, _, _] ⟨⟨_, _, 0, 0, _, rfl, (Cel.var 0 rfl), rfl, (Cut.agg [.int .i64 0, .int .i64 0, .int .i64 0, .int .i64 0, .int .i64 0, .int .i64 0, .int .i64 0, .int .i64 0, Value.slice none 0 0] Try.isAgg28 Try.sizeOf28 rfl rfl)⟩, rfl, rfl, trivial⟩ [] (by decide) [] rfl ⟨rfl, rfl⟩)

set_option maxRecDepth 100000 in
theorem jb_Done (x0 x1 x2 x3 x4 x5 x6 : Int) (qv lv : Value) (l : List Int) (hq : Value.oneCell' qv = true) (hl : l.length ≤ 1000) (hne : l ≠ []) : Tri Try.prog 12 #[.agg #[.int .i64 x0, .int .i64 x1, .int .i64 x2, .int .i64 x3, .int .i64 x4, .int .i64 x5, .int .i64 x6, .int .i64 1, qv], lv] [rd lv 1 (l.map encZ)] [] (fun v L' => ∃ V', v = .tuple #[.agg #[.int .i64 x0, .int .i64 x1, .int .i64 x2, .int .i64 x3, .int .i64 x4, .int .i64 x5, .int .i64 x6, .int .i64 2, V'], .int .i64 0, .int .i64 0] ∧ L' = [row V' 3 1 ((Jb.rising l).map encZ)]) := by
  refine Tri.enter (args := [.agg #[.int .i64 x0, .int .i64 x1, .int .i64 x2, .int .i64 x3, .int .i64 x4, .int .i64 x5, .int .i64 x6, .int .i64 1, qv], lv]) (body := _) 19 Try.func12 rfl Try.ntmps12 rfl ?_
  intro w0
  refine J.seq ?_
  refine J.region ?_
  refine O.l (Lo.box [.int .i64 x0, .int .i64 x1, .int .i64 x2, .int .i64 x3, .int .i64 x4, .int .i64 x5, .int .i64 x6, .int .i64 1, qv] rfl rfl) rfl ?_
  rintro _ _ ⟨g1, rfl, rfl⟩
  refine O.l (Lo.alloc [.int .i64 0, .int .i64 0, .int .i64 0, .int .i64 0, .int .i64 0, .int .i64 0, .int .i64 0, .int .i64 0, Value.slice none 0 0] (by exact Try.zeroValue28) rfl) rfl ?_
  rintro _ _ ⟨g2, rfl, rfl⟩
  refine O.p (Pu.assign rfl) rfl ?_
  refine O.p (Pu.assign rfl) rfl ?_
  refine O.nil ?_
  refine J.seq ?_
  refine J.region ?_
  refine O.l (Lo.buildE encZ (by exact Try.runUnderlying24) (by exact Try.sizeOf3)) rfl ?_
  rintro V3 _ rfl
  refine O.p (Pu.move rfl) rfl ?_
  refine O.l (Lo.appendM (s := 1) 0 (by exact Try.underlying24) (by exact (info3).1) (by exact (info3).2.1) (by exact (info3).2.2.1) (by exact (info3).2.2.2) rfl rfl rfl rfl rfl (Src.ro 0 rfl) encZ.one (by first | omega | (simp only [List.length_append, List.length_cons, List.length_nil]; omega)) (by first | omega | (simp only [List.length_append, List.length_cons, List.length_nil]; omega))) rfl ?_
  rintro V4 _ rfl
  refine O.l (Lo.alloc [Value.slice none 0 0] (by exact Try.zeroValue24) rfl) rfl ?_
  rintro _ _ ⟨g5, rfl, rfl⟩
  refine O.one (Src.row 1 rfl) (fun hV6 => ?_)
  refine O.l0 (Lo.store 0 (vs := [V4]) [V4] rfl rfl rfl (by exact Try.sizeOf24) (one_cells hV6) rfl (one_all hV6) rfl rfl) ?_
  rintro _ _ rfl
  refine O.nil ?_
  refine J.seq ?_
  show J _ _ _ [var g5 [V4] 24, row V4 3 1 (l.map encZ), var g2 [.int .i64 0, .int .i64 0, .int .i64 0, .int .i64 0, .int .i64 0, .int .i64 0, .int .i64 0, .int .i64 0, Value.slice none 0 0] 28, var g1 [.int .i64 x0, .int .i64 x1, .int .i64 x2, .int .i64 x3, .int .i64 x4, .int .i64 x5, .int .i64 x6, .int .i64 1, qv] 28]
  refine J.region ?_
  refine O.q (Qt.ld rfl (Cel.var 0 rfl) (o := 0) (off := 0) rfl (Cut.one Try.isAgg24 rfl)) rfl ?_
  refine O.l (Lo.call [V4] (by exact Try.call51) rfl (s_Sort V4 l (by omega)) [1] [0, 2, 3] (by decide) rfl [var g5 [V4] 24, var g2 [.int .i64 0, .int .i64 0, .int .i64 0, .int .i64 0, .int .i64 0, .int .i64 0, .int .i64 0, .int .i64 0, Value.slice none 0 0] 28, var g1 [.int .i64 x0, .int .i64 x1, .int .i64 x2, .int .i64 x3, .int .i64 x4, .int .i64 x5, .int .i64 x6, .int .i64 1, qv] 28] rfl RoOk.nil) rfl ?_
  rintro _ _ ⟨_, ⟨rfl, rfl⟩, rfl⟩
  refine O.nil ?_
  refine J.seq ?_
  refine J.region ?_
  refine O.q (Qt.ld rfl (Cel.var 3 rfl) (o := 0) (off := 0) rfl (Cut.agg [.int .i64 x0, .int .i64 x1, .int .i64 x2, .int .i64 x3, .int .i64 x4, .int .i64 x5, .int .i64 x6, .int .i64 1, qv] Try.isAgg28 Try.sizeOf28 rfl rfl)) rfl ?_
  refine O.p (Pu.makeFunc [.pointer (some ⟨g1, 0, none⟩), .pointer (some ⟨g5, 0, none⟩)] rfl) rfl ?_
  refine O.l (Lo.call [.agg #[.int .i64 x0, .int .i64 x1, .int .i64 x2, .int .i64 x3, .int .i64 x4, .int .i64 x5, .int .i64 x6, .int .i64 1, qv], .func (.func 53) #[] #[.pointer (some ⟨g1, 0, none⟩), .pointer (some ⟨g5, 0, none⟩)]] (by exact Try.call52) rfl (jb_worksNe g1 g5 x0 x1 x2 x3 x4 x5 x6 qv V4 l hq hl hne) [3, 1, 0] [2] (by decide) rfl [var g2 [.int .i64 0, .int .i64 0, .int .i64 0, .int .i64 0, .int .i64 0, .int .i64 0, .int .i64 0, .int .i64 0, Value.slice none 0 0] 28] rfl RoOk.nil) rfl ?_
  rintro _ _ ⟨_, ⟨V8, rfl, rfl⟩, rfl⟩
  refine O.p (Pu.extract rfl rfl) rfl ?_
  refine O.p (Pu.extract rfl rfl) rfl ?_
  refine O.p (Pu.extract rfl rfl) rfl ?_
  refine O.one (Src.row 0 rfl) (fun hV10 => ?_)
  refine O.l0 (Lo.store 1 (vs := [.int .i64 x0, .int .i64 x1, .int .i64 x2, .int .i64 x3, .int .i64 x4, .int .i64 x5, .int .i64 x6, .int .i64 2, V8]) [.int .i64 x0, .int .i64 x1, .int .i64 x2, .int .i64 x3, .int .i64 x4, .int .i64 x5, .int .i64 x6, .int .i64 2, V8] rfl rfl rfl (by exact Try.sizeOf28) rfl rfl (by simp only [List.all_cons, List.all_nil, Bool.and_true, hV10] <;> rfl) rfl rfl) ?_
  rintro _ _ rfl
  refine O.p (Pu.assign rfl) rfl ?_
  refine O.p (Pu.assign rfl) rfl ?_
  refine O.nil ?_
  exact J.ret (Fin.ret (rs := [.cell 4 28, .tmp 5, .tmp 6]) rfl [_, _, _] ⟨⟨_, _, 0, 0, _, rfl, (Cel.var 1 rfl), rfl, (Cut.agg [.int .i64 x0, .int .i64 x1, .int .i64 x2, .int .i64 x3, .int .i64 x4, .int .i64 x5, .int .i64 x6, .int .i64 2, V8] Try.isAgg28 Try.sizeOf28 rfl rfl)⟩, rfl, rfl, trivial⟩ [0] (by decide) [row V8 3 1 ((Jb.rising l).map encZ)] rfl ⟨V8, rfl, rfl⟩)

set_option maxRecDepth 100000 in
theorem jb_DoneE (x0 x1 x2 x3 x4 x5 x6 : Int) (qv lv : Value) (hq : Value.oneCell' qv = true) : Tri Try.prog 12 #[.agg #[.int .i64 x0, .int .i64 x1, .int .i64 x2, .int .i64 x3, .int .i64 x4, .int .i64 x5, .int .i64 x6, .int .i64 1, qv], lv] [rd lv 1 (([] : List Int).map encZ)] [] (fun v L' => v = .tuple #[.agg #[.int .i64 0, .int .i64 0, .int .i64 0, .int .i64 0, .int .i64 0, .int .i64 0, .int .i64 0, .int .i64 0, Value.slice none 0 0], .int .i64 1, .int .i64 0] ∧ L' = []) := by
  refine Tri.enter (args := [.agg #[.int .i64 x0, .int .i64 x1, .int .i64 x2, .int .i64 x3, .int .i64 x4, .int .i64 x5, .int .i64 x6, .int .i64 1, qv], lv]) (body := _) 19 Try.func12 rfl Try.ntmps12 rfl ?_
  intro w0
  refine J.seq ?_
  refine J.region ?_
  refine O.l (Lo.box [.int .i64 x0, .int .i64 x1, .int .i64 x2, .int .i64 x3, .int .i64 x4, .int .i64 x5, .int .i64 x6, .int .i64 1, qv] rfl rfl) rfl ?_
  rintro _ _ ⟨g1, rfl, rfl⟩
  refine O.l (Lo.alloc [.int .i64 0, .int .i64 0, .int .i64 0, .int .i64 0, .int .i64 0, .int .i64 0, .int .i64 0, .int .i64 0, Value.slice none 0 0] (by exact Try.zeroValue28) rfl) rfl ?_
  rintro _ _ ⟨g2, rfl, rfl⟩
  refine O.p (Pu.assign rfl) rfl ?_
  refine O.p (Pu.assign rfl) rfl ?_
  refine O.nil ?_
  refine J.seq ?_
  refine J.region ?_
  refine O.l (Lo.buildE encZ (by exact Try.runUnderlying24) (by exact Try.sizeOf3)) rfl ?_
  rintro V3 _ rfl
  refine O.p (Pu.move rfl) rfl ?_
  refine O.l (Lo.appendM (s := 1) 0 (by exact Try.underlying24) (by exact (info3).1) (by exact (info3).2.1) (by exact (info3).2.2.1) (by exact (info3).2.2.2) rfl rfl rfl rfl rfl (Src.ro 0 rfl) encZ.one (by decide) (by decide)) rfl ?_
  rintro V4 _ rfl
  refine O.l (Lo.alloc [Value.slice none 0 0] (by exact Try.zeroValue24) rfl) rfl ?_
  rintro _ _ ⟨g5, rfl, rfl⟩
  refine O.one (Src.row 1 rfl) (fun hV6 => ?_)
  refine O.l0 (Lo.store 0 (vs := [V4]) [V4] rfl rfl rfl (by exact Try.sizeOf24) (one_cells hV6) rfl (one_all hV6) rfl rfl) ?_
  rintro _ _ rfl
  refine O.nil ?_
  refine J.seq ?_
  show J _ _ _ [var g5 [V4] 24, row V4 3 1 (([] : List Int).map encZ), var g2 [.int .i64 0, .int .i64 0, .int .i64 0, .int .i64 0, .int .i64 0, .int .i64 0, .int .i64 0, .int .i64 0, Value.slice none 0 0] 28, var g1 [.int .i64 x0, .int .i64 x1, .int .i64 x2, .int .i64 x3, .int .i64 x4, .int .i64 x5, .int .i64 x6, .int .i64 1, qv] 28]
  refine J.region ?_
  refine O.q (Qt.ld rfl (Cel.var 0 rfl) (o := 0) (off := 0) rfl (Cut.one Try.isAgg24 rfl)) rfl ?_
  refine O.l (Lo.call [V4] (by exact Try.call51) rfl (s_Sort V4 ([] : List Int) (by decide)) [1] [0, 2, 3] (by decide) rfl [var g5 [V4] 24, var g2 [.int .i64 0, .int .i64 0, .int .i64 0, .int .i64 0, .int .i64 0, .int .i64 0, .int .i64 0, .int .i64 0, Value.slice none 0 0] 28, var g1 [.int .i64 x0, .int .i64 x1, .int .i64 x2, .int .i64 x3, .int .i64 x4, .int .i64 x5, .int .i64 x6, .int .i64 1, qv] 28] rfl RoOk.nil) rfl ?_
  rintro _ _ ⟨_, ⟨rfl, rfl⟩, rfl⟩
  refine O.nil ?_
  refine J.seq ?_
  refine J.region ?_
  refine O.q (Qt.ld rfl (Cel.var 3 rfl) (o := 0) (off := 0) rfl (Cut.agg [.int .i64 x0, .int .i64 x1, .int .i64 x2, .int .i64 x3, .int .i64 x4, .int .i64 x5, .int .i64 x6, .int .i64 1, qv] Try.isAgg28 Try.sizeOf28 rfl rfl)) rfl ?_
  refine O.p (Pu.makeFunc [.pointer (some ⟨g1, 0, none⟩), .pointer (some ⟨g5, 0, none⟩)] rfl) rfl ?_
  refine O.l (Lo.call [.agg #[.int .i64 x0, .int .i64 x1, .int .i64 x2, .int .i64 x3, .int .i64 x4, .int .i64 x5, .int .i64 x6, .int .i64 1, qv], .func (.func 53) #[] #[.pointer (some ⟨g1, 0, none⟩), .pointer (some ⟨g5, 0, none⟩)]] (by exact Try.call52) rfl (jb_worksE g1 g5 x0 x1 x2 x3 x4 x5 x6 qv V4 hq) [3, 1, 0] [2] (by decide) rfl [var g2 [.int .i64 0, .int .i64 0, .int .i64 0, .int .i64 0, .int .i64 0, .int .i64 0, .int .i64 0, .int .i64 0, Value.slice none 0 0] 28] rfl RoOk.nil) rfl ?_
  rintro _ _ ⟨_, ⟨rfl, rfl⟩, rfl⟩
  refine O.p (Pu.extract rfl rfl) rfl ?_
  refine O.p (Pu.extract rfl rfl) rfl ?_
  refine O.p (Pu.extract rfl rfl) rfl ?_
  refine O.l0 (Lo.store 0 (vs := [.int .i64 0, .int .i64 0, .int .i64 0, .int .i64 0, .int .i64 0, .int .i64 0, .int .i64 0, .int .i64 0, Value.slice none 0 0]) [.int .i64 0, .int .i64 0, .int .i64 0, .int .i64 0, .int .i64 0, .int .i64 0, .int .i64 0, .int .i64 0, Value.slice none 0 0] rfl rfl rfl (by exact Try.sizeOf28) rfl rfl rfl rfl rfl) ?_
  rintro _ _ rfl
  refine O.p (Pu.assign rfl) rfl ?_
  refine O.p (Pu.assign rfl) rfl ?_
  refine O.nil ?_
  exact J.ret (Fin.ret (rs := [.cell 4 28, .tmp 5, .tmp 6]) rfl [_, _, _] ⟨⟨_, _, 0, 0, _, rfl, (Cel.var 0 rfl), rfl, (Cut.agg [.int .i64 0, .int .i64 0, .int .i64 0, .int .i64 0, .int .i64 0, .int .i64 0, .int .i64 0, .int .i64 0, Value.slice none 0 0] Try.isAgg28 Try.sizeOf28 rfl rfl)⟩, rfl, rfl, trivial⟩ [] (by decide) [] rfl ⟨rfl, rfl⟩)

set_option maxRecDepth 100000 in
theorem jb_DoneNo (x0 x1 x2 x3 x4 x5 x6 : Int) (ph : Int) (qv lv : Value) (l : List Int) (hq : Value.oneCell' qv = true) (hl : l.length ≤ 1000) (hp : ph ≠ 1) : Tri Try.prog 12 #[.agg #[.int .i64 x0, .int .i64 x1, .int .i64 x2, .int .i64 x3, .int .i64 x4, .int .i64 x5, .int .i64 x6, .int .i64 ph, qv], lv] [rd lv 1 (l.map encZ)] [] (fun v L' => v = .tuple #[.agg #[.int .i64 0, .int .i64 0, .int .i64 0, .int .i64 0, .int .i64 0, .int .i64 0, .int .i64 0, .int .i64 0, Value.slice none 0 0], .int .i64 0, .int .i64 12] ∧ L' = []) := by
  refine Tri.enter (args := [.agg #[.int .i64 x0, .int .i64 x1, .int .i64 x2, .int .i64 x3, .int .i64 x4, .int .i64 x5, .int .i64 x6, .int .i64 ph, qv], lv]) (body := _) 19 Try.func12 rfl Try.ntmps12 rfl ?_
  intro w0
  refine J.seq ?_
  refine J.region ?_
  refine O.l (Lo.box [.int .i64 x0, .int .i64 x1, .int .i64 x2, .int .i64 x3, .int .i64 x4, .int .i64 x5, .int .i64 x6, .int .i64 ph, qv] rfl rfl) rfl ?_
  rintro _ _ ⟨g1, rfl, rfl⟩
  refine O.l (Lo.alloc [.int .i64 0, .int .i64 0, .int .i64 0, .int .i64 0, .int .i64 0, .int .i64 0, .int .i64 0, .int .i64 0, Value.slice none 0 0] (by exact Try.zeroValue28) rfl) rfl ?_
  rintro _ _ ⟨g2, rfl, rfl⟩
  refine O.p (Pu.assign rfl) rfl ?_
  refine O.p (Pu.assign rfl) rfl ?_
  refine O.nil ?_
  refine J.seq ?_
  refine J.region ?_
  refine O.l (Lo.buildE encZ (by exact Try.runUnderlying24) (by exact Try.sizeOf3)) rfl ?_
  rintro V3 _ rfl
  refine O.p (Pu.move rfl) rfl ?_
  refine O.l (Lo.appendM (s := 1) 0 (by exact Try.underlying24) (by exact (info3).1) (by exact (info3).2.1) (by exact (info3).2.2.1) (by exact (info3).2.2.2) rfl rfl rfl rfl rfl (Src.ro 0 rfl) encZ.one (by first | omega | (simp only [List.length_append, List.length_cons, List.length_nil]; omega)) (by first | omega | (simp only [List.length_append, List.length_cons, List.length_nil]; omega))) rfl ?_
  rintro V4 _ rfl
  refine O.l (Lo.alloc [Value.slice none 0 0] (by exact Try.zeroValue24) rfl) rfl ?_
  rintro _ _ ⟨g5, rfl, rfl⟩
  refine O.one (Src.row 1 rfl) (fun hV6 => ?_)
  refine O.l0 (Lo.store 0 (vs := [V4]) [V4] rfl rfl rfl (by exact Try.sizeOf24) (one_cells hV6) rfl (one_all hV6) rfl rfl) ?_
  rintro _ _ rfl
  refine O.nil ?_
  refine J.seq ?_
  show J _ _ _ [var g5 [V4] 24, row V4 3 1 (l.map encZ), var g2 [.int .i64 0, .int .i64 0, .int .i64 0, .int .i64 0, .int .i64 0, .int .i64 0, .int .i64 0, .int .i64 0, Value.slice none 0 0] 28, var g1 [.int .i64 x0, .int .i64 x1, .int .i64 x2, .int .i64 x3, .int .i64 x4, .int .i64 x5, .int .i64 x6, .int .i64 ph, qv] 28]
  refine J.region ?_
  refine O.q (Qt.ld rfl (Cel.var 0 rfl) (o := 0) (off := 0) rfl (Cut.one Try.isAgg24 rfl)) rfl ?_
  refine O.l (Lo.call [V4] (by exact Try.call51) rfl (s_Sort V4 l (by omega)) [1] [0, 2, 3] (by decide) rfl [var g5 [V4] 24, var g2 [.int .i64 0, .int .i64 0, .int .i64 0, .int .i64 0, .int .i64 0, .int .i64 0, .int .i64 0, .int .i64 0, Value.slice none 0 0] 28, var g1 [.int .i64 x0, .int .i64 x1, .int .i64 x2, .int .i64 x3, .int .i64 x4, .int .i64 x5, .int .i64 x6, .int .i64 ph, qv] 28] rfl RoOk.nil) rfl ?_
  rintro _ _ ⟨_, ⟨rfl, rfl⟩, rfl⟩
  refine O.nil ?_
  refine J.seq ?_
  refine J.region ?_
  refine O.q (Qt.ld rfl (Cel.var 3 rfl) (o := 0) (off := 0) rfl (Cut.agg [.int .i64 x0, .int .i64 x1, .int .i64 x2, .int .i64 x3, .int .i64 x4, .int .i64 x5, .int .i64 x6, .int .i64 ph, qv] Try.isAgg28 Try.sizeOf28 rfl rfl)) rfl ?_
  refine O.p (Pu.makeFunc [.pointer (some ⟨g1, 0, none⟩), .pointer (some ⟨g5, 0, none⟩)] rfl) rfl ?_
  refine O.l (Lo.call [.agg #[.int .i64 x0, .int .i64 x1, .int .i64 x2, .int .i64 x3, .int .i64 x4, .int .i64 x5, .int .i64 x6, .int .i64 ph, qv], .func (.func 53) #[] #[.pointer (some ⟨g1, 0, none⟩), .pointer (some ⟨g5, 0, none⟩)]] (by exact Try.call52) rfl (jb_worksNo g1 g5 x0 x1 x2 x3 x4 x5 x6 ph qv hq hp) [] [0, 1, 2, 3] (by decide) rfl [row V4 3 1 ((l.mergeSort (fun x y => decide (x ≤ y))).map encZ), var g5 [V4] 24, var g2 [.int .i64 0, .int .i64 0, .int .i64 0, .int .i64 0, .int .i64 0, .int .i64 0, .int .i64 0, .int .i64 0, Value.slice none 0 0] 28, var g1 [.int .i64 x0, .int .i64 x1, .int .i64 x2, .int .i64 x3, .int .i64 x4, .int .i64 x5, .int .i64 x6, .int .i64 ph, qv] 28] rfl RoOk.nil) rfl ?_
  rintro _ _ ⟨_, ⟨rfl, rfl⟩, rfl⟩
  refine O.p (Pu.extract rfl rfl) rfl ?_
  refine O.p (Pu.extract rfl rfl) rfl ?_
  refine O.p (Pu.extract rfl rfl) rfl ?_
  refine O.l0 (Lo.store 2 (vs := [.int .i64 0, .int .i64 0, .int .i64 0, .int .i64 0, .int .i64 0, .int .i64 0, .int .i64 0, .int .i64 0, Value.slice none 0 0]) [.int .i64 0, .int .i64 0, .int .i64 0, .int .i64 0, .int .i64 0, .int .i64 0, .int .i64 0, .int .i64 0, Value.slice none 0 0] rfl rfl rfl (by exact Try.sizeOf28) rfl rfl rfl rfl rfl) ?_
  rintro _ _ rfl
  refine O.p (Pu.assign rfl) rfl ?_
  refine O.p (Pu.assign rfl) rfl ?_
  refine O.nil ?_
  exact J.ret (Fin.ret (rs := [.cell 4 28, .tmp 5, .tmp 6]) rfl [_, _, _] ⟨⟨_, _, 0, 0, _, rfl, (Cel.var 2 rfl), rfl, (Cut.agg [.int .i64 0, .int .i64 0, .int .i64 0, .int .i64 0, .int .i64 0, .int .i64 0, .int .i64 0, .int .i64 0, Value.slice none 0 0] Try.isAgg28 Try.sizeOf28 rfl rfl)⟩, rfl, rfl, trivial⟩ [] (by decide) [] rfl ⟨rfl, rfl⟩)

set_option maxRecDepth 100000 in
theorem jb_Broken (x0 x1 x2 x3 x4 x5 x6 : Int) (qv : Value) (hq : Value.oneCell' qv = true) : Tri Try.prog 34 #[.agg #[.int .i64 x0, .int .i64 x1, .int .i64 x2, .int .i64 x3, .int .i64 x4, .int .i64 x5, .int .i64 x6, .int .i64 1, qv]] [] [] (fun v L' => v = .tuple #[.int .i64 10, .int .i64 0] ∧ L' = []) := by
  refine Tri.enter (args := [.agg #[.int .i64 x0, .int .i64 x1, .int .i64 x2, .int .i64 x3, .int .i64 x4, .int .i64 x5, .int .i64 x6, .int .i64 1, qv]]) (body := _) 20 Try.func34 rfl Try.ntmps34 rfl ?_
  intro w0
  refine J.seq ?_
  refine J.region ?_
  refine O.l (Lo.box [.int .i64 x0, .int .i64 x1, .int .i64 x2, .int .i64 x3, .int .i64 x4, .int .i64 x5, .int .i64 x6, .int .i64 1, qv] rfl rfl) rfl ?_
  rintro _ _ ⟨g1, rfl, rfl⟩
  refine O.p (Pu.assign rfl) rfl ?_
  refine O.p (Pu.assign rfl) rfl ?_
  refine O.nil ?_
  refine J.seq ?_
  refine J.region ?_
  refine O.q (Qt.ld rfl (Cel.var 0 rfl) (o := 0) (off := 0) rfl (Cut.agg [.int .i64 x0, .int .i64 x1, .int .i64 x2, .int .i64 x3, .int .i64 x4, .int .i64 x5, .int .i64 x6, .int .i64 1, qv] Try.isAgg28 Try.sizeOf28 rfl rfl)) rfl ?_
  refine O.p (Pu.build [(0, .agg #[.int .i64 x0, .int .i64 x1, .int .i64 x2, .int .i64 x3, .int .i64 x4, .int .i64 x5, .int .i64 x6, .int .i64 1, qv])] [.int .i64 x0, .int .i64 x1, .int .i64 x2, .int .i64 x3, .int .i64 x4, .int .i64 x5, .int .i64 x6, .int .i64 1, qv] #[(0, 9)] Try.runUnderlying88 Try.zeroValue88 (places88 Try.underlying88) rfl (by cases qv <;> first | (simp [Value.oneCell'] at hq; done) | (kernel_rfl; done))) rfl ?_
  refine O.p (Pu.makeFuncB [.agg #[.int .i64 x0, .int .i64 x1, .int .i64 x2, .int .i64 x3, .int .i64 x4, .int .i64 x5, .int .i64 x6, .int .i64 1, qv]] [] rfl rfl) rfl ?_
  refine O.p (Pu.assign rfl) rfl ?_
  refine O.nil ?_
  refine J.seq ?_
  refine J.region ?_
  refine O.q (Qt.ld rfl (Cel.var 0 rfl) (o := 0) (off := 0) rfl (Cut.agg [.int .i64 x0, .int .i64 x1, .int .i64 x2, .int .i64 x3, .int .i64 x4, .int .i64 x5, .int .i64 x6, .int .i64 1, qv] Try.isAgg28 Try.sizeOf28 rfl rfl)) rfl ?_
  refine O.p (Pu.move rfl) rfl ?_
  refine O.l (Lo.call [.agg #[.int .i64 x0, .int .i64 x1, .int .i64 x2, .int .i64 x3, .int .i64 x4, .int .i64 x5, .int .i64 x6, .int .i64 1, qv], .func (.func 61) #[.agg #[.int .i64 x0, .int .i64 x1, .int .i64 x2, .int .i64 x3, .int .i64 x4, .int .i64 x5, .int .i64 x6, .int .i64 1, qv]] #[]] (by exact Try.call52) rfl (jb_worksBr x0 x1 x2 x3 x4 x5 x6 qv hq) [] [0] (by decide) rfl [var g1 [.int .i64 x0, .int .i64 x1, .int .i64 x2, .int .i64 x3, .int .i64 x4, .int .i64 x5, .int .i64 x6, .int .i64 1, qv] 28] rfl RoOk.nil) rfl ?_
  rintro _ _ ⟨_, ⟨rfl, rfl⟩, rfl⟩
  refine O.p (Pu.move rfl) rfl ?_
  refine O.p (Pu.extract rfl rfl) rfl ?_
  refine O.p (Pu.extract rfl rfl) rfl ?_
  refine O.p (Pu.extract rfl rfl) rfl ?_
  refine O.l (Lo.alloc [.int .i64 0, .int .i64 0, .int .i64 0, .int .i64 0, .int .i64 0, .int .i64 0, .int .i64 0, .int .i64 0, Value.slice none 0 0] (by exact Try.zeroValue28) rfl) rfl ?_
  rintro _ _ ⟨g3, rfl, rfl⟩
  refine O.l0 (Lo.store 0 (vs := [.int .i64 0, .int .i64 0, .int .i64 0, .int .i64 0, .int .i64 0, .int .i64 0, .int .i64 0, .int .i64 0, Value.slice none 0 0]) [.int .i64 0, .int .i64 0, .int .i64 0, .int .i64 0, .int .i64 0, .int .i64 0, .int .i64 0, .int .i64 0, Value.slice none 0 0] rfl rfl rfl (by exact Try.sizeOf28) rfl rfl rfl rfl rfl) ?_
  rintro _ _ rfl
  refine O.p (Pu.assign rfl) rfl ?_
  refine O.p (Pu.assign rfl) rfl ?_
  refine O.nil ?_
  refine J.seq ?_
  refine J.region ?_
  refine O.p (Pu.move rfl) rfl ?_
  refine O.p (Pu.move rfl) rfl ?_
  refine O.p (Pu.assign rfl) rfl ?_
  refine O.p (Pu.assign rfl) rfl ?_
  refine O.nil ?_
  exact J.ret (Fin.ret (rs := [.tmp 2, .tmp 3]) rfl [_, _] ⟨rfl, rfl, trivial⟩ [] (by decide) [] rfl ⟨rfl, rfl⟩)

set_option maxRecDepth 100000 in
theorem jb_BrokenNo (x0 x1 x2 x3 x4 x5 x6 : Int) (ph : Int) (qv : Value) (hq : Value.oneCell' qv = true) (hp : ph ≠ 1) : Tri Try.prog 34 #[.agg #[.int .i64 x0, .int .i64 x1, .int .i64 x2, .int .i64 x3, .int .i64 x4, .int .i64 x5, .int .i64 x6, .int .i64 ph, qv]] [] [] (fun v L' => v = .tuple #[.int .i64 0, .int .i64 12] ∧ L' = []) := by
  refine Tri.enter (args := [.agg #[.int .i64 x0, .int .i64 x1, .int .i64 x2, .int .i64 x3, .int .i64 x4, .int .i64 x5, .int .i64 x6, .int .i64 ph, qv]]) (body := _) 20 Try.func34 rfl Try.ntmps34 rfl ?_
  intro w0
  refine J.seq ?_
  refine J.region ?_
  refine O.l (Lo.box [.int .i64 x0, .int .i64 x1, .int .i64 x2, .int .i64 x3, .int .i64 x4, .int .i64 x5, .int .i64 x6, .int .i64 ph, qv] rfl rfl) rfl ?_
  rintro _ _ ⟨g1, rfl, rfl⟩
  refine O.p (Pu.assign rfl) rfl ?_
  refine O.p (Pu.assign rfl) rfl ?_
  refine O.nil ?_
  refine J.seq ?_
  refine J.region ?_
  refine O.q (Qt.ld rfl (Cel.var 0 rfl) (o := 0) (off := 0) rfl (Cut.agg [.int .i64 x0, .int .i64 x1, .int .i64 x2, .int .i64 x3, .int .i64 x4, .int .i64 x5, .int .i64 x6, .int .i64 ph, qv] Try.isAgg28 Try.sizeOf28 rfl rfl)) rfl ?_
  refine O.p (Pu.build [(0, .agg #[.int .i64 x0, .int .i64 x1, .int .i64 x2, .int .i64 x3, .int .i64 x4, .int .i64 x5, .int .i64 x6, .int .i64 ph, qv])] [.int .i64 x0, .int .i64 x1, .int .i64 x2, .int .i64 x3, .int .i64 x4, .int .i64 x5, .int .i64 x6, .int .i64 ph, qv] #[(0, 9)] Try.runUnderlying88 Try.zeroValue88 (places88 Try.underlying88) rfl (by cases qv <;> first | (simp [Value.oneCell'] at hq; done) | (kernel_rfl; done))) rfl ?_
  refine O.p (Pu.makeFuncB [.agg #[.int .i64 x0, .int .i64 x1, .int .i64 x2, .int .i64 x3, .int .i64 x4, .int .i64 x5, .int .i64 x6, .int .i64 ph, qv]] [] rfl rfl) rfl ?_
  refine O.p (Pu.assign rfl) rfl ?_
  refine O.nil ?_
  refine J.seq ?_
  refine J.region ?_
  refine O.q (Qt.ld rfl (Cel.var 0 rfl) (o := 0) (off := 0) rfl (Cut.agg [.int .i64 x0, .int .i64 x1, .int .i64 x2, .int .i64 x3, .int .i64 x4, .int .i64 x5, .int .i64 x6, .int .i64 ph, qv] Try.isAgg28 Try.sizeOf28 rfl rfl)) rfl ?_
  refine O.p (Pu.move rfl) rfl ?_
  refine O.l (Lo.call [.agg #[.int .i64 x0, .int .i64 x1, .int .i64 x2, .int .i64 x3, .int .i64 x4, .int .i64 x5, .int .i64 x6, .int .i64 ph, qv], .func (.func 61) #[.agg #[.int .i64 x0, .int .i64 x1, .int .i64 x2, .int .i64 x3, .int .i64 x4, .int .i64 x5, .int .i64 x6, .int .i64 ph, qv]] #[]] (by exact Try.call52) rfl (jb_worksBrNo x0 x1 x2 x3 x4 x5 x6 ph qv hq hp) [] [0] (by decide) rfl [var g1 [.int .i64 x0, .int .i64 x1, .int .i64 x2, .int .i64 x3, .int .i64 x4, .int .i64 x5, .int .i64 x6, .int .i64 ph, qv] 28] rfl RoOk.nil) rfl ?_
  rintro _ _ ⟨_, ⟨rfl, rfl⟩, rfl⟩
  refine O.p (Pu.move rfl) rfl ?_
  refine O.p (Pu.extract rfl rfl) rfl ?_
  refine O.p (Pu.extract rfl rfl) rfl ?_
  refine O.p (Pu.extract rfl rfl) rfl ?_
  refine O.l (Lo.alloc [.int .i64 0, .int .i64 0, .int .i64 0, .int .i64 0, .int .i64 0, .int .i64 0, .int .i64 0, .int .i64 0, Value.slice none 0 0] (by exact Try.zeroValue28) rfl) rfl ?_
  rintro _ _ ⟨g3, rfl, rfl⟩
  refine O.l0 (Lo.store 0 (vs := [.int .i64 0, .int .i64 0, .int .i64 0, .int .i64 0, .int .i64 0, .int .i64 0, .int .i64 0, .int .i64 0, Value.slice none 0 0]) [.int .i64 0, .int .i64 0, .int .i64 0, .int .i64 0, .int .i64 0, .int .i64 0, .int .i64 0, .int .i64 0, Value.slice none 0 0] rfl rfl rfl (by exact Try.sizeOf28) rfl rfl rfl rfl rfl) ?_
  rintro _ _ rfl
  refine O.p (Pu.assign rfl) rfl ?_
  refine O.p (Pu.assign rfl) rfl ?_
  refine O.nil ?_
  refine J.seq ?_
  refine J.region ?_
  refine O.p (Pu.move rfl) rfl ?_
  refine O.p (Pu.move rfl) rfl ?_
  refine O.p (Pu.assign rfl) rfl ?_
  refine O.p (Pu.assign rfl) rfl ?_
  refine O.nil ?_
  exact J.ret (Fin.ret (rs := [.tmp 2, .tmp 3]) rfl [_, _] ⟨rfl, rfl, trivial⟩ [] (by decide) [] rfl ⟨rfl, rfl⟩)

set_option maxRecDepth 100000 in
theorem r32_has (lv : Value) (l : List Int) (n : Int) (hl : l.length ≤ 100000) : Tri Try.prog 60 #[lv, .int .i64 n] [rd lv 1 (l.map encZ)] [] (fun v L' => v = .bool (decide (n ∈ l)) ∧ L' = []) := by
  refine Tri.enter (args := [lv, .int .i64 n]) (body := _) 18 Try.func60 rfl Try.ntmps60 rfl ?_
  intro w0
  refine J.seq ?_
  refine J.region ?_
  refine O.p (Pu.assign rfl) rfl ?_
  refine O.nil ?_
  refine J.seq ?_
  refine J.seq ?_
  refine J.region ?_
  refine O.p (Pu.assign rfl) rfl ?_
  refine O.nil ?_
  refine J.block ?_
  refine J.loop (X := Nat) (fun ξ => ξ ≤ l.length ∧ n ∉ l.take ξ) (fun ξ => [(0, lv), (1, .int .i64 n), (5, .int .i64 (ξ : Int))]) (fun ξ => []) (fun ξ => l.length - ξ) 0 (show 0 ≤ l.length ∧ n ∉ l.take 0 from ⟨by omega, by simp⟩) ⟨rfl, rfl, (congrArg (fun z => some (Value.int .i64 z)) (by first | rfl | omega : (0 : Int) = (0 : Int))), trivial⟩ [] (by decide) rfl ?_
  rintro k hq1
  obtain ⟨hk, hno⟩ : k ≤ l.length ∧ n ∉ l.take k := hq1
  show J _ _ [(0, lv), (1, .int .i64 n), (5, .int .i64 (k : Int))] []
  refine J.seq ?_
  refine J.seq ?_
  refine J.region ?_
  refine O.p (Pu.move rfl) rfl ?_
  refine O.p (Pu.move rfl) rfl ?_
  refine O.q (Qt.lenM Try.runUnderlying24 rfl (Src.ro 0 rfl)) rfl ?_
  refine O.p (Pu.lss rfl rfl) rfl ?_
  refine O.nil ?_
  refine J.cond rfl (fun h2 => ?_) (fun h2 => ?_)
  ·
    have p3 := of_decide_eq_true h2
    refine J.skip ?_
    refine J.seq ?_
    refine J.block ?_
    refine J.seq ?_
    refine J.region ?_
    refine O.p (Pu.move rfl) rfl ?_
    refine O.p (Pu.move rfl) rfl ?_
    obtain ⟨e4, he4⟩ : ∃ x_, l[k]? = some x_ := ⟨_, List.getElem?_eq_getElem (by omega)⟩
    refine O.q (Qt.idxM Try.runUnderlying24 Try.sizeOf3 rfl (Src.ro 0 rfl) rfl (by omega) (by omega)) rfl ?_
    refine O.q (Qt.ld rfl (Cel.eltM (Src.ro 0 rfl) he4) (o := (voff lv + k * 1)) (off := 0) (by omega) (Cut.one Try.isAgg3 rfl)) rfl ?_
    refine O.p (Pu.move rfl) rfl ?_
    refine O.p (Pu.eql rfl rfl) rfl ?_
    refine O.nil ?_
    refine J.cond rfl (fun h5 => ?_) (fun h5 => ?_)
    ·
      have p6 := of_decide_eq_true h5
      refine J.seq ?_
      refine J.region ?_
      refine O.p (Pu.assign rfl) rfl ?_
      refine O.nil ?_
      exact J.ret (Fin.ret (rs := [.tmp 4]) rfl [_] ⟨rfl, trivial⟩ [] (by decide) [] rfl ⟨(by simp only [vOf]; rw [decide_eq_true (Jb.has_hit he4 (by omega))]), rfl⟩)
    ·
      have p7 := of_decide_eq_false h5
      refine J.skip ?_
      refine J.blk ?_
      refine J.region ?_
      refine O.p (Pu.move rfl) rfl ?_
      refine O.p (Pu.add' rfl rfl (by first | omega | (simp only [List.length_append, List.length_cons, List.length_nil, List.length_set]; omega))) rfl ?_
      refine O.p (Pu.assign rfl) rfl ?_
      refine O.nil ?_
      exact J.lp (k + 1) (show (k + 1) ≤ l.length ∧ n ∉ l.take (k + 1) from ⟨by omega, Jb.has_next hno he4 (by omega)⟩) (show l.length - (k + 1) < l.length - k from (by omega)) ⟨rfl, rfl, (congrArg (fun z => some (Value.int .i64 z)) (by first | rfl | omega : ((k : Int) + 1 : Int) = ((k + 1) : Int))), trivial⟩ [] (by decide) rfl
  ·
    have p8 := of_decide_eq_false h2
    refine J.exit _ rfl ?_
    refine J.seq ?_
    refine J.region ?_
    refine O.p (Pu.assign rfl) rfl ?_
    refine O.nil ?_
    exact J.ret (Fin.ret (rs := [.tmp 4]) rfl [_] ⟨rfl, trivial⟩ [] (by decide) [] rfl ⟨(by simp only [vOf]; rw [decide_eq_false (Jb.has_miss hno (by omega))]), rfl⟩)

set_option maxRecDepth 100000 in
set_option maxHeartbeats 1000000 in
theorem r32_Rising (lv : Value) (l : List Int) (hl : l.length ≤ 1000) : Tri Try.prog 31 #[lv] [rd lv 1 (l.map encZ)] [] (fun v L' => L' = [row v 3 1 ((Jb.rising l).map encZ)]) := by
  refine Tri.enter (args := [lv]) (body := _) 54 Try.func31 rfl Try.ntmps31 rfl ?_
  intro w0
  refine J.seq ?_
  refine J.region ?_
  refine O.p (Pu.assign rfl) rfl ?_
  refine O.nil ?_
  refine J.seq ?_
  refine J.region ?_
  refine O.p (Pu.assign rfl) rfl ?_
  refine O.nil ?_
  refine J.seq ?_
  refine J.seq ?_
  refine J.region ?_
  refine O.p (Pu.assign rfl) rfl ?_
  refine O.nil ?_
  refine J.block ?_
  refine J.nilRow 3 1 ?_
  refine J.loop (X := Nat × Value × List Int) (fun ξ => ξ.1 ≤ l.length ∧ ξ.2.2 = Jb.rising (l.take ξ.1) ∧ ξ.2.2.length ≤ ξ.1) (fun ξ => [(0, lv), (2, Value.slice none 0 0), (3, ξ.2.1), (4, .int .i64 (ξ.1 : Int))]) (fun ξ => [row ξ.2.1 3 1 (ξ.2.2.map encZ)]) (fun ξ => l.length - ξ.1) ⟨0, Value.slice none 0 0, []⟩ (show 0 ≤ l.length ∧ ([]) = Jb.rising (l.take 0) ∧ ([]).length ≤ 0 from ⟨by omega, by simp [Jb.rising], by simp⟩) ⟨rfl, rfl, rfl, (congrArg (fun z => some (Value.int .i64 z)) (by first | rfl | omega : (0 : Int) = (0 : Int))), trivial⟩ [0] (by decide) rfl ?_
  rintro ⟨k, V, o⟩ hq1
  obtain ⟨hk, hst, hlen⟩ : k ≤ l.length ∧ o = Jb.rising (l.take k) ∧ o.length ≤ k := hq1
  show J _ _ [(0, lv), (2, Value.slice none 0 0), (3, V), (4, .int .i64 (k : Int))] [row V 3 1 (o.map encZ)]
  refine J.seq ?_
  refine J.seq ?_
  refine J.region ?_
  refine O.p (Pu.move rfl) rfl ?_
  refine O.p (Pu.move rfl) rfl ?_
  refine O.q (Qt.lenM Try.runUnderlying24 rfl (Src.ro 0 rfl)) rfl ?_
  refine O.p (Pu.lss rfl rfl) rfl ?_
  refine O.nil ?_
  refine J.cond rfl (fun h2 => ?_) (fun h2 => ?_)
  ·
    have p3 := of_decide_eq_true h2
    refine J.skip ?_
    refine J.seq ?_
    refine J.block ?_
    refine J.seq ?_
    refine J.seq ?_
    refine J.region ?_
    refine O.p (Pu.move rfl) rfl ?_
    refine O.p (Pu.move rfl) rfl ?_
    refine O.p (Pu.move rfl) rfl ?_
    obtain ⟨e4, he4⟩ : ∃ x_, l[k]? = some x_ := ⟨_, List.getElem?_eq_getElem (by first | omega | (simp only [List.length_append, List.length_cons, List.length_nil, List.length_take, List.length_drop]; omega))⟩
    refine O.q (Qt.idxM Try.runUnderlying24 Try.sizeOf3 rfl (Src.ro 0 rfl) rfl (by first | omega | (simp only [List.length_append, List.length_cons, List.length_nil, List.length_take, List.length_drop]; omega)) (by first | omega | (simp only [List.length_append, List.length_cons, List.length_nil, List.length_take, List.length_drop]; omega))) rfl ?_
    refine O.q (Qt.ld rfl (Cel.eltM (Src.ro 0 rfl) he4) (o := (voff lv + k * 1)) (off := 0) (by omega) (Cut.one Try.isAgg3 rfl)) rfl ?_
    refine O.l (Lo.call [V, .int .i64 e4] (by exact Try.call60) rfl (r32_has V o e4 (by first | omega | (have h_ := Jb.rising_len (l := l.take k); rw [← hst] at h_; omega))) [] [0] (by decide) rfl [row V 3 1 (o.map encZ)] rfl (RoOk.of 0 rfl row_rd [] (by decide) rfl RoOk.nil)) rfl ?_
    rintro _ _ ⟨_, ⟨rfl, rfl⟩, rfl⟩
    refine O.nil ?_
    refine J.cond rfl (fun h6 => ?_) (fun h6 => ?_)
    ·
      have p7 := of_decide_eq_true h6
      refine J.exit _ rfl ?_
      refine J.region ?_
      refine O.p (Pu.move rfl) rfl ?_
      refine O.p (Pu.add' rfl rfl (by first | omega | (simp only [List.length_append, List.length_cons, List.length_nil, List.length_set]; omega))) rfl ?_
      refine O.p (Pu.assign rfl) rfl ?_
      refine O.nil ?_
      exact J.lp ⟨k + 1, V, o⟩ (show (k + 1) ≤ l.length ∧ o = Jb.rising (l.take (k + 1)) ∧ o.length ≤ (k + 1) from ⟨by omega, (by rw [Jb.rising_take he4, ← hst]; first | (rw [Jb.ins_in (of_decide_eq_true (by assumption))]; done) | (rw [Jb.ins_out (of_decide_eq_false (by assumption))]; first | exact Jb.ins0_at hall (by omega) (.inl (by omega)) | exact Jb.ins0_at hall (by omega) (.inr ⟨_, by assumption, by assumption⟩))), (by first | omega | (simp only [List.length_append, List.length_cons, List.length_nil, List.length_take, List.length_drop]; omega))⟩) (show l.length - (k + 1) < l.length - k from (by first | omega | (simp only [List.length_append, List.length_cons, List.length_nil, List.length_take, List.length_drop]; omega))) ⟨rfl, rfl, rfl, (congrArg (fun z => some (Value.int .i64 z)) (by first | rfl | omega : ((k : Int) + 1 : Int) = ((k + 1) : Int))), trivial⟩ [0] (by decide) rfl
    ·
      have p8 := of_decide_eq_false h6
      refine J.skip ?_
      refine J.seq ?_
      refine J.region ?_
      refine O.p (Pu.assign rfl) rfl ?_
      refine O.nil ?_
      refine J.seq ?_
      refine J.block ?_
      refine J.loop (X := Nat) (fun ξ => ξ ≤ o.length ∧ ((o.take ξ).all fun y => decide (y < e4)) = true) (fun ξ => [(0, lv), (2, Value.slice none 0 0), (3, V), (4, .int .i64 (k : Int)), (5, .int .i64 (ξ : Int))]) (fun ξ => [row V 3 1 (o.map encZ)]) (fun ξ => o.length - ξ) 0 (show 0 ≤ o.length ∧ ((o.take 0).all fun y => decide (y < e4)) = true from ⟨by omega, by simp⟩) ⟨rfl, rfl, rfl, rfl, (congrArg (fun z => some (Value.int .i64 z)) (by first | rfl | omega : (0 : Int) = (0 : Int))), trivial⟩ [0] (by decide) rfl ?_
      rintro q hq9
      obtain ⟨hq, hall⟩ : q ≤ o.length ∧ ((o.take q).all fun y => decide (y < e4)) = true := hq9
      show J _ _ [(0, lv), (2, Value.slice none 0 0), (3, V), (4, .int .i64 (k : Int)), (5, .int .i64 (q : Int))] [row V 3 1 (o.map encZ)]
      refine J.seq ?_
      refine J.seq ?_
      refine J.drawStill Try.mixed (by kernel_rfl) ?_
      refine S.p (Pu.move rfl) rfl ?_
      refine S.p (Pu.move rfl) rfl ?_
      refine S.q (Qt.lenM Try.runUnderlying24 rfl (Src.row 0 rfl)) rfl ?_
      refine S.p (Pu.lss rfl rfl) rfl ?_
      refine S.p (Pu.move rfl) rfl ?_
      refine by_bool (decide ((q : Int) < (o.length : Int))) (fun h10 => ?_) (fun h10 => ?_)
      ·
        have p11 := of_decide_eq_true h10
        refine S.gq (t := 23) rfl rfl h10 rfl (Pu.qt (Pu.move rfl)) rfl ?_
        refine S.gq (t := 23) rfl rfl h10 rfl (Pu.qt (Pu.move rfl)) rfl ?_
        obtain ⟨e12, he12⟩ : ∃ x_, o[q]? = some x_ := ⟨_, List.getElem?_eq_getElem (by first | omega | (simp only [List.length_append, List.length_cons, List.length_nil, List.length_take, List.length_drop]; omega))⟩
        refine S.gq (t := 23) rfl rfl h10 rfl (Qt.idxM Try.runUnderlying24 Try.sizeOf3 rfl (Src.row 0 rfl) rfl (by first | omega | (simp only [List.length_append, List.length_cons, List.length_nil, List.length_take, List.length_drop]; omega)) (by first | omega | (simp only [List.length_append, List.length_cons, List.length_nil, List.length_take, List.length_drop]; omega))) rfl ?_
        refine S.gq (t := 23) rfl rfl h10 rfl (Qt.ld rfl (Cel.eltM (Src.row 0 rfl) he12) (o := (voff V + q * 1)) (off := 0) (by omega) (Cut.one Try.isAgg3 rfl)) rfl ?_
        refine S.gq (t := 23) rfl rfl h10 rfl (Pu.qt (Pu.move rfl)) rfl ?_
        refine S.gq (t := 23) rfl rfl h10 rfl (Pu.qt (Pu.move rfl)) rfl ?_
        refine S.gq (t := 23) rfl rfl h10 rfl (Qt.idxM Try.runUnderlying24 Try.sizeOf3 rfl (Src.ro 0 rfl) rfl (by first | omega | (simp only [List.length_append, List.length_cons, List.length_nil, List.length_take, List.length_drop]; omega)) (by first | omega | (simp only [List.length_append, List.length_cons, List.length_nil, List.length_take, List.length_drop]; omega))) rfl ?_
        refine S.gq (t := 23) rfl rfl h10 rfl (Qt.ld rfl (Cel.eltM (Src.ro 0 rfl) he4) (o := (voff lv + k * 1)) (off := 0) (by omega) (Cut.one Try.isAgg3 rfl)) rfl ?_
        refine S.gq (t := 23) rfl rfl h10 rfl (Pu.qt (Pu.lss rfl rfl)) rfl ?_
        refine S.p (Pu.pickT rfl h10 rfl) rfl ?_
        refine S.endJ ?_
        refine J.cond rfl (fun h13 => ?_) (fun h13 => ?_)
        ·
          have p14 := of_decide_eq_true h13
          refine J.skip ?_
          refine J.block ?_
          refine J.region ?_
          refine O.p (Pu.move rfl) rfl ?_
          refine O.p (Pu.add' rfl rfl (by first | omega | (simp only [List.length_append, List.length_cons, List.length_nil, List.length_set]; omega))) rfl ?_
          refine O.p (Pu.assign rfl) rfl ?_
          refine O.nil ?_
          refine J.blk ?_
          exact J.lp (q + 1) (show (q + 1) ≤ o.length ∧ ((o.take (q + 1)).all fun y => decide (y < e4)) = true from ⟨by omega, Jb.lt_next hall he12 (by assumption)⟩) (show o.length - (q + 1) < o.length - q from (by first | omega | (simp only [List.length_append, List.length_cons, List.length_nil, List.length_take, List.length_drop]; omega))) ⟨rfl, rfl, rfl, rfl, (congrArg (fun z => some (Value.int .i64 z)) (by first | rfl | omega : ((q : Int) + 1 : Int) = ((q + 1) : Int))), trivial⟩ [0] (by decide) rfl
        ·
          have p15 := of_decide_eq_false h13
          refine J.exit _ rfl ?_
          refine J.seq ?_
          refine J.region ?_
          refine O.p (Pu.assign rfl) rfl ?_
          refine O.nil ?_
          refine J.seq ?_
          refine J.region ?_
          refine O.p (Pu.move rfl) rfl ?_
          refine O.p (Pu.move rfl) rfl ?_
          refine O.p (Pu.move rfl) rfl ?_
          refine O.q (Qt.cutHead Try.runUnderlying24 Try.sizeOf3 rfl (Src.row 0 rfl) rfl (by first | omega | (simp only [List.length_append, List.length_cons, List.length_nil, List.length_take, List.length_drop]; omega)) (by first | omega | (simp only [List.length_append, List.length_cons, List.length_nil, List.length_take, List.length_drop]; omega))) rfl ?_
          refine O.nilRow 3 1 ?_
          show O _ _ _ _ _ [row (Value.slice none 0 0) 3 1 (([] : List Int).map encZ), row V 3 1 (o.map encZ)]
          refine O.l (Lo.appendM (s := 1) 0 (by exact Try.underlying24) (by exact (info3).1) (by exact (info3).2.1) (by exact (info3).2.2.1) (by exact (info3).2.2.2) rfl rfl rfl rfl rfl (Src.head (l := o) (Src.row 1 rfl) (by first | omega | (simp only [List.length_append, List.length_cons, List.length_nil, List.length_take, List.length_drop]; omega))) encZ.one (by first | omega | (simp only [List.length_append, List.length_cons, List.length_nil, List.length_take, List.length_drop]; omega)) (by first | omega | (simp only [List.length_append, List.length_cons, List.length_nil, List.length_take, List.length_drop]; omega))) rfl ?_
          rintro V16 _ rfl
          refine O.p (Pu.assign rfl) rfl ?_
          refine O.nil ?_
          refine J.seq ?_
          refine J.region ?_
          refine O.p (Pu.move rfl) rfl ?_
          refine O.p (Pu.move rfl) rfl ?_
          refine O.p (Pu.move rfl) rfl ?_
          refine O.q (Qt.idxM Try.runUnderlying24 Try.sizeOf3 rfl (Src.ro 0 rfl) rfl (by first | omega | (simp only [List.length_append, List.length_cons, List.length_nil, List.length_take, List.length_drop]; omega)) (by first | omega | (simp only [List.length_append, List.length_cons, List.length_nil, List.length_take, List.length_drop]; omega))) rfl ?_
          refine O.q (Qt.ld rfl (Cel.eltM (Src.ro 0 rfl) he4) (o := (voff lv + k * 1)) (off := 0) (by omega) (Cut.one Try.isAgg3 rfl)) rfl ?_
          refine O.l (Lo.buildM (s := 1) encZ [e4] [(0, .int .i64 e4)] (by exact Try.runUnderlying24) (by exact Try.sizeOf3) (by exact Try.zeroValue3) rfl rfl rfl (by kernel_rfl) rfl rfl) rfl ?_
          rintro V17 _ rfl
          refine O.l (Lo.appendM (s := 1) 1 (by exact Try.underlying24) (by exact (info3).1) (by exact (info3).2.1) (by exact (info3).2.2.1) (by exact (info3).2.2.2) rfl rfl rfl rfl rfl (Src.row 0 rfl) encZ.one (by first | omega | (simp only [List.length_append, List.length_cons, List.length_nil, List.length_take, List.length_drop]; omega)) (by first | omega | (simp only [List.length_append, List.length_cons, List.length_nil, List.length_take, List.length_drop]; omega))) rfl ?_
          rintro V18 _ rfl
          refine O.p (Pu.assign rfl) rfl ?_
          refine O.nil ?_
          refine J.region ?_
          refine O.p (Pu.move rfl) rfl ?_
          refine O.p (Pu.move rfl) rfl ?_
          refine O.p (Pu.move rfl) rfl ?_
          refine O.q (Qt.cutTail Try.runUnderlying24 Try.sizeOf3 rfl (Src.row 2 rfl) rfl (by first | omega | (simp only [List.length_append, List.length_cons, List.length_nil, List.length_take, List.length_drop]; omega)) (by first | omega | (simp only [List.length_append, List.length_cons, List.length_nil, List.length_take, List.length_drop]; omega))) rfl ?_
          refine O.l (Lo.appendM (s := 1) 1 (by exact Try.underlying24) (by exact (info3).1) (by exact (info3).2.1) (by exact (info3).2.2.1) (by exact (info3).2.2.2) rfl rfl rfl rfl rfl (Src.tail (l := o) (Src.row 2 rfl) (by first | omega | (simp only [List.length_append, List.length_cons, List.length_nil, List.length_take, List.length_drop]; omega)) rfl) encZ.one (by first | omega | (simp only [List.length_append, List.length_cons, List.length_nil, List.length_take, List.length_drop]; omega)) (by first | omega | (simp only [List.length_append, List.length_cons, List.length_nil, List.length_take, List.length_drop]; omega))) rfl ?_
          rintro V19 _ rfl
          refine O.p (Pu.assign rfl) rfl ?_
          refine O.nil ?_
          refine J.blk ?_
          refine J.region ?_
          refine O.p (Pu.move rfl) rfl ?_
          refine O.p (Pu.add' rfl rfl (by first | omega | (simp only [List.length_append, List.length_cons, List.length_nil, List.length_set]; omega))) rfl ?_
          refine O.p (Pu.assign rfl) rfl ?_
          refine O.nil ?_
          exact J.lp ⟨k + 1, V19, ((([] : List Int) ++ (o.take ((q : Int)).toNat)) ++ ([e4])) ++ (o.drop ((q : Int)).toNat)⟩ (show (k + 1) ≤ l.length ∧ (((([] : List Int) ++ (o.take ((q : Int)).toNat)) ++ ([e4])) ++ (o.drop ((q : Int)).toNat)) = Jb.rising (l.take (k + 1)) ∧ (((([] : List Int) ++ (o.take ((q : Int)).toNat)) ++ ([e4])) ++ (o.drop ((q : Int)).toNat)).length ≤ (k + 1) from ⟨by omega, (by rw [Jb.rising_take he4, ← hst]; first | (rw [Jb.ins_in (of_decide_eq_true (by assumption))]; done) | (rw [Jb.ins_out (of_decide_eq_false (by assumption))]; first | exact Jb.ins0_at hall (by omega) (.inl (by omega)) | exact Jb.ins0_at hall (by omega) (.inr ⟨_, by assumption, by assumption⟩))), (by first | omega | (simp only [List.length_append, List.length_cons, List.length_nil, List.length_take, List.length_drop]; omega))⟩) (show l.length - (k + 1) < l.length - k from (by first | omega | (simp only [List.length_append, List.length_cons, List.length_nil, List.length_take, List.length_drop]; omega))) ⟨rfl, rfl, rfl, (congrArg (fun z => some (Value.int .i64 z)) (by first | rfl | omega : ((k : Int) + 1 : Int) = ((k + 1) : Int))), trivial⟩ [1] (by decide) rfl
      ·
        have p20 := of_decide_eq_false h10
        refine S.gskip (t := 23) rfl rfl (no_bool (by rw [h10]; decide)) rfl rfl ?_
        refine S.gskip (t := 23) rfl rfl (no_bool (by rw [h10]; decide)) rfl rfl ?_
        refine S.gskip (t := 23) rfl rfl (no_bool (by rw [h10]; decide)) rfl rfl ?_
        refine S.gskip (t := 23) rfl rfl (no_bool (by rw [h10]; decide)) rfl rfl ?_
        refine S.gskip (t := 23) rfl rfl (no_bool (by rw [h10]; decide)) rfl rfl ?_
        refine S.gskip (t := 23) rfl rfl (no_bool (by rw [h10]; decide)) rfl rfl ?_
        refine S.gskip (t := 23) rfl rfl (no_bool (by rw [h10]; decide)) rfl rfl ?_
        refine S.gskip (t := 23) rfl rfl (no_bool (by rw [h10]; decide)) rfl rfl ?_
        refine S.gskip (t := 23) rfl rfl (no_bool (by rw [h10]; decide)) rfl rfl ?_
        refine S.p (Pu.pickF rfl h10 rfl) rfl ?_
        refine S.endJ ?_
        refine J.condF rfl rfl ?_
        refine J.exit _ rfl ?_
        refine J.seq ?_
        refine J.region ?_
        refine O.p (Pu.assign rfl) rfl ?_
        refine O.nil ?_
        refine J.seq ?_
        refine J.region ?_
        refine O.p (Pu.move rfl) rfl ?_
        refine O.p (Pu.move rfl) rfl ?_
        refine O.p (Pu.move rfl) rfl ?_
        refine O.q (Qt.cutHead Try.runUnderlying24 Try.sizeOf3 rfl (Src.row 0 rfl) rfl (by first | omega | (simp only [List.length_append, List.length_cons, List.length_nil, List.length_take, List.length_drop]; omega)) (by first | omega | (simp only [List.length_append, List.length_cons, List.length_nil, List.length_take, List.length_drop]; omega))) rfl ?_
        refine O.nilRow 3 1 ?_
        show O _ _ _ _ _ [row (Value.slice none 0 0) 3 1 (([] : List Int).map encZ), row V 3 1 (o.map encZ)]
        refine O.l (Lo.appendM (s := 1) 0 (by exact Try.underlying24) (by exact (info3).1) (by exact (info3).2.1) (by exact (info3).2.2.1) (by exact (info3).2.2.2) rfl rfl rfl rfl rfl (Src.head (l := o) (Src.row 1 rfl) (by first | omega | (simp only [List.length_append, List.length_cons, List.length_nil, List.length_take, List.length_drop]; omega))) encZ.one (by first | omega | (simp only [List.length_append, List.length_cons, List.length_nil, List.length_take, List.length_drop]; omega)) (by first | omega | (simp only [List.length_append, List.length_cons, List.length_nil, List.length_take, List.length_drop]; omega))) rfl ?_
        rintro V21 _ rfl
        refine O.p (Pu.assign rfl) rfl ?_
        refine O.nil ?_
        refine J.seq ?_
        refine J.region ?_
        refine O.p (Pu.move rfl) rfl ?_
        refine O.p (Pu.move rfl) rfl ?_
        refine O.p (Pu.move rfl) rfl ?_
        refine O.q (Qt.idxM Try.runUnderlying24 Try.sizeOf3 rfl (Src.ro 0 rfl) rfl (by first | omega | (simp only [List.length_append, List.length_cons, List.length_nil, List.length_take, List.length_drop]; omega)) (by first | omega | (simp only [List.length_append, List.length_cons, List.length_nil, List.length_take, List.length_drop]; omega))) rfl ?_
        refine O.q (Qt.ld rfl (Cel.eltM (Src.ro 0 rfl) he4) (o := (voff lv + k * 1)) (off := 0) (by omega) (Cut.one Try.isAgg3 rfl)) rfl ?_
        refine O.l (Lo.buildM (s := 1) encZ [e4] [(0, .int .i64 e4)] (by exact Try.runUnderlying24) (by exact Try.sizeOf3) (by exact Try.zeroValue3) rfl rfl rfl (by kernel_rfl) rfl rfl) rfl ?_
        rintro V22 _ rfl
        refine O.l (Lo.appendM (s := 1) 1 (by exact Try.underlying24) (by exact (info3).1) (by exact (info3).2.1) (by exact (info3).2.2.1) (by exact (info3).2.2.2) rfl rfl rfl rfl rfl (Src.row 0 rfl) encZ.one (by first | omega | (simp only [List.length_append, List.length_cons, List.length_nil, List.length_take, List.length_drop]; omega)) (by first | omega | (simp only [List.length_append, List.length_cons, List.length_nil, List.length_take, List.length_drop]; omega))) rfl ?_
        rintro V23 _ rfl
        refine O.p (Pu.assign rfl) rfl ?_
        refine O.nil ?_
        refine J.region ?_
        refine O.p (Pu.move rfl) rfl ?_
        refine O.p (Pu.move rfl) rfl ?_
        refine O.p (Pu.move rfl) rfl ?_
        refine O.q (Qt.cutTail Try.runUnderlying24 Try.sizeOf3 rfl (Src.row 2 rfl) rfl (by first | omega | (simp only [List.length_append, List.length_cons, List.length_nil, List.length_take, List.length_drop]; omega)) (by first | omega | (simp only [List.length_append, List.length_cons, List.length_nil, List.length_take, List.length_drop]; omega))) rfl ?_
        refine O.l (Lo.appendM (s := 1) 1 (by exact Try.underlying24) (by exact (info3).1) (by exact (info3).2.1) (by exact (info3).2.2.1) (by exact (info3).2.2.2) rfl rfl rfl rfl rfl (Src.tail (l := o) (Src.row 2 rfl) (by first | omega | (simp only [List.length_append, List.length_cons, List.length_nil, List.length_take, List.length_drop]; omega)) rfl) encZ.one (by first | omega | (simp only [List.length_append, List.length_cons, List.length_nil, List.length_take, List.length_drop]; omega)) (by first | omega | (simp only [List.length_append, List.length_cons, List.length_nil, List.length_take, List.length_drop]; omega))) rfl ?_
        rintro V24 _ rfl
        refine O.p (Pu.assign rfl) rfl ?_
        refine O.nil ?_
        refine J.blk ?_
        refine J.region ?_
        refine O.p (Pu.move rfl) rfl ?_
        refine O.p (Pu.add' rfl rfl (by first | omega | (simp only [List.length_append, List.length_cons, List.length_nil, List.length_set]; omega))) rfl ?_
        refine O.p (Pu.assign rfl) rfl ?_
        refine O.nil ?_
        exact J.lp ⟨k + 1, V24, ((([] : List Int) ++ (o.take ((q : Int)).toNat)) ++ ([e4])) ++ (o.drop ((q : Int)).toNat)⟩ (show (k + 1) ≤ l.length ∧ (((([] : List Int) ++ (o.take ((q : Int)).toNat)) ++ ([e4])) ++ (o.drop ((q : Int)).toNat)) = Jb.rising (l.take (k + 1)) ∧ (((([] : List Int) ++ (o.take ((q : Int)).toNat)) ++ ([e4])) ++ (o.drop ((q : Int)).toNat)).length ≤ (k + 1) from ⟨by omega, (by rw [Jb.rising_take he4, ← hst]; first | (rw [Jb.ins_in (of_decide_eq_true (by assumption))]; done) | (rw [Jb.ins_out (of_decide_eq_false (by assumption))]; first | exact Jb.ins0_at hall (by omega) (.inl (by omega)) | exact Jb.ins0_at hall (by omega) (.inr ⟨_, by assumption, by assumption⟩))), (by first | omega | (simp only [List.length_append, List.length_cons, List.length_nil, List.length_take, List.length_drop]; omega))⟩) (show l.length - (k + 1) < l.length - k from (by first | omega | (simp only [List.length_append, List.length_cons, List.length_nil, List.length_take, List.length_drop]; omega))) ⟨rfl, rfl, rfl, (congrArg (fun z => some (Value.int .i64 z)) (by first | rfl | omega : ((k : Int) + 1 : Int) = ((k + 1) : Int))), trivial⟩ [1] (by decide) rfl
  ·
    have p25 := of_decide_eq_false h2
    refine J.exit _ rfl ?_
    refine J.seq ?_
    refine J.region ?_
    refine O.p (Pu.move rfl) rfl ?_
    refine O.p (Pu.assign rfl) rfl ?_
    refine O.nil ?_
    exact J.ret (Fin.ret (rs := [.tmp 2]) rfl [_] ⟨rfl, trivial⟩ [0] (by decide) [row V 3 1 (o.map encZ)] rfl (congrArg (fun (z : List Int) => ([row V 3 1 (z.map encZ)] : List Sp)) (show o = Jb.rising l from (by rw [hst, List.take_of_length_le (by omega)]))))

set_option maxRecDepth 100000 in
theorem r32_Done (x0 x1 x2 x3 x4 x5 x6 : Int) (qv lv : Value) (l : List Int) (hq : Value.oneCell' qv = true) (hl : l.length ≤ 1000) (hne : l ≠ []) : Tri Try.prog 32 #[.agg #[.int .i64 x0, .int .i64 x1, .int .i64 x2, .int .i64 x3, .int .i64 x4, .int .i64 x5, .int .i64 x6, .int .i64 1, qv], lv] [rd lv 1 (l.map encZ)] [] (fun v L' => ∃ V', v = .tuple #[.agg #[.int .i64 x0, .int .i64 x1, .int .i64 x2, .int .i64 x3, .int .i64 x4, .int .i64 x5, .int .i64 x6, .int .i64 2, V'], .int .i64 0, .int .i64 0] ∧ L' = [row V' 3 1 ((Jb.rising l).map encZ)]) := by
  refine Tri.enter (args := [.agg #[.int .i64 x0, .int .i64 x1, .int .i64 x2, .int .i64 x3, .int .i64 x4, .int .i64 x5, .int .i64 x6, .int .i64 1, qv], lv]) (body := _) 20 Try.func32 rfl Try.ntmps32 rfl ?_
  intro w0
  refine J.seq ?_
  refine J.region ?_
  refine O.l (Lo.box [.int .i64 x0, .int .i64 x1, .int .i64 x2, .int .i64 x3, .int .i64 x4, .int .i64 x5, .int .i64 x6, .int .i64 1, qv] rfl rfl) rfl ?_
  rintro _ _ ⟨g1, rfl, rfl⟩
  refine O.l (Lo.alloc [.int .i64 0, .int .i64 0, .int .i64 0, .int .i64 0, .int .i64 0, .int .i64 0, .int .i64 0, .int .i64 0, Value.slice none 0 0] (by exact Try.zeroValue28) rfl) rfl ?_
  rintro _ _ ⟨g2, rfl, rfl⟩
  refine O.p (Pu.assign rfl) rfl ?_
  refine O.p (Pu.assign rfl) rfl ?_
  refine O.nil ?_
  refine J.seq ?_
  refine J.seq ?_
  refine J.region ?_
  refine O.p (Pu.fieldAddr (off' := 7) Try.runUnderlying28 rfl Try.sizeOf3 rfl rfl rfl) rfl ?_
  refine O.q (Qt.ld rfl (Cel.var 1 rfl) (o := 0) (off := 7) rfl (Cut.one Try.isAgg3 rfl)) rfl ?_
  refine O.p (Pu.neq rfl rfl) rfl ?_
  refine O.nil ?_
  refine J.condF rfl rfl ?_
  refine J.skip ?_
  refine J.seq ?_
  refine J.seq ?_
  refine J.region ?_
  refine O.p (Pu.move rfl) rfl ?_
  refine O.q (Qt.lenM Try.runUnderlying24 rfl (Src.ro 0 rfl)) rfl ?_
  refine O.p (Pu.eql rfl rfl) rfl ?_
  refine O.nil ?_
  refine J.condF rfl (decide_eq_false (by have h_ := List.length_pos_iff.2 hne; omega)) ?_
  refine J.skip ?_
  refine J.seq ?_
  refine J.drawMix [(0, false), (1, false), (2, false), (3, true), (4, false), (5, true), (6, false), (7, false)] [1] [var g1 [.int .i64 x0, .int .i64 x1, .int .i64 x2, .int .i64 x3, .int .i64 x4, .int .i64 x5, .int .i64 x6, .int .i64 1, qv] 28] Try.mixed (by kernel_rfl) (by decide) rfl ?_
  refine Mx.p rfl (Pu.fieldAddr (off' := 0) Try.runUnderlying28 rfl Try.sizeOf23 rfl rfl rfl) rfl ?_
  refine Mx.q rfl (Qt.ld rfl (Cel.var 0 rfl) (o := 0) (off := 0) rfl (Cut.agg [.int .i64 x0, .int .i64 x1, .int .i64 x2, .int .i64 x3, .int .i64 x4, .int .i64 x5, .int .i64 x6] Try.isAgg23 Try.sizeOf23 rfl rfl)) rfl ?_
  refine Mx.p rfl (Pu.move rfl) rfl ?_
  refine Mx.l rfl (Lo.call [lv] (by exact Try.call31) rfl (r32_Rising lv l (by omega)) [] [0, 1] (by decide) rfl [var g2 [.int .i64 0, .int .i64 0, .int .i64 0, .int .i64 0, .int .i64 0, .int .i64 0, .int .i64 0, .int .i64 0, Value.slice none 0 0] 28, var g1 [.int .i64 x0, .int .i64 x1, .int .i64 x2, .int .i64 x3, .int .i64 x4, .int .i64 x5, .int .i64 x6, .int .i64 1, qv] 28] rfl (RoOk.ro 0 rfl [] rfl RoOk.nil)) rfl ?_
  rintro v3 _ ⟨_, rfl, rfl⟩
  refine MxK.go [0, 2] [1] [row v3 3 1 ((Jb.rising l).map encZ), var g1 [.int .i64 x0, .int .i64 x1, .int .i64 x2, .int .i64 x3, .int .i64 x4, .int .i64 x5, .int .i64 x6, .int .i64 1, qv] 28] (by decide) rfl (by decide) rfl ?_
  refine Mx.q rfl (Qt.oneP (Src.row 0 rfl) (fun hV4 => (Pu.qt (Pu.build [(0, .agg #[.int .i64 x0, .int .i64 x1, .int .i64 x2, .int .i64 x3, .int .i64 x4, .int .i64 x5, .int .i64 x6]), (1, .int .i64 2), (2, v3)] [.int .i64 x0, .int .i64 x1, .int .i64 x2, .int .i64 x3, .int .i64 x4, .int .i64 x5, .int .i64 x6, .int .i64 2, v3] #[(0, 7), (7, 1), (8, 1)] Try.runUnderlying28 Try.zeroValue28 (places28 Try.underlying28) rfl (by cases v3 <;> first | (simp [Value.oneCell'] at hV4; done) | (kernel_rfl; done)))))) rfl ?_
  refine Mx.one rfl (fun _ h => by cases h <;> rfl) (Src.row 0 rfl) (fun hV5 => ?_)
  refine Mx.l0 rfl (Lo.store 1 (vs := [.int .i64 x0, .int .i64 x1, .int .i64 x2, .int .i64 x3, .int .i64 x4, .int .i64 x5, .int .i64 x6, .int .i64 2, v3]) [.int .i64 x0, .int .i64 x1, .int .i64 x2, .int .i64 x3, .int .i64 x4, .int .i64 x5, .int .i64 x6, .int .i64 2, v3] rfl rfl rfl (by exact Try.sizeOf28) rfl rfl (by simp only [List.all_cons, List.all_nil, Bool.and_true, hV5] <;> rfl) rfl rfl) ?_
  rintro _ _ rfl
  refine MxK.all [0, 2] [row v3 3 1 ((Jb.rising l).map encZ), var g1 [.int .i64 x0, .int .i64 x1, .int .i64 x2, .int .i64 x3, .int .i64 x4, .int .i64 x5, .int .i64 x6, .int .i64 1, qv] 28] (by decide) rfl (by kernel_rfl) ?_
  refine Mx.p rfl (Pu.assign rfl) rfl ?_
  refine Mx.p rfl (Pu.assign rfl) rfl ?_
  refine Mx.nil ?_
  exact J.ret (Fin.ret (rs := [.cell 4 28, .tmp 5, .tmp 6]) rfl [_, _, _] ⟨⟨_, _, 0, 0, _, rfl, (Cel.var 1 rfl), rfl, (Cut.agg [.int .i64 x0, .int .i64 x1, .int .i64 x2, .int .i64 x3, .int .i64 x4, .int .i64 x5, .int .i64 x6, .int .i64 2, v3] Try.isAgg28 Try.sizeOf28 rfl rfl)⟩, rfl, rfl, trivial⟩ [0] (by decide) [row v3 3 1 ((Jb.rising l).map encZ)] rfl ⟨v3, rfl, rfl⟩)

set_option maxRecDepth 100000 in
theorem r32_DoneE (x0 x1 x2 x3 x4 x5 x6 : Int) (qv lv : Value) (hq : Value.oneCell' qv = true) : Tri Try.prog 32 #[.agg #[.int .i64 x0, .int .i64 x1, .int .i64 x2, .int .i64 x3, .int .i64 x4, .int .i64 x5, .int .i64 x6, .int .i64 1, qv], lv] [rd lv 1 (([] : List Int).map encZ)] [] (fun v L' => v = .tuple #[.agg #[.int .i64 0, .int .i64 0, .int .i64 0, .int .i64 0, .int .i64 0, .int .i64 0, .int .i64 0, .int .i64 0, Value.slice none 0 0], .int .i64 1, .int .i64 0] ∧ L' = []) := by
  refine Tri.enter (args := [.agg #[.int .i64 x0, .int .i64 x1, .int .i64 x2, .int .i64 x3, .int .i64 x4, .int .i64 x5, .int .i64 x6, .int .i64 1, qv], lv]) (body := _) 20 Try.func32 rfl Try.ntmps32 rfl ?_
  intro w0
  refine J.seq ?_
  refine J.region ?_
  refine O.l (Lo.box [.int .i64 x0, .int .i64 x1, .int .i64 x2, .int .i64 x3, .int .i64 x4, .int .i64 x5, .int .i64 x6, .int .i64 1, qv] rfl rfl) rfl ?_
  rintro _ _ ⟨g1, rfl, rfl⟩
  refine O.l (Lo.alloc [.int .i64 0, .int .i64 0, .int .i64 0, .int .i64 0, .int .i64 0, .int .i64 0, .int .i64 0, .int .i64 0, Value.slice none 0 0] (by exact Try.zeroValue28) rfl) rfl ?_
  rintro _ _ ⟨g2, rfl, rfl⟩
  refine O.p (Pu.assign rfl) rfl ?_
  refine O.p (Pu.assign rfl) rfl ?_
  refine O.nil ?_
  refine J.seq ?_
  refine J.seq ?_
  refine J.region ?_
  refine O.p (Pu.fieldAddr (off' := 7) Try.runUnderlying28 rfl Try.sizeOf3 rfl rfl rfl) rfl ?_
  refine O.q (Qt.ld rfl (Cel.var 1 rfl) (o := 0) (off := 7) rfl (Cut.one Try.isAgg3 rfl)) rfl ?_
  refine O.p (Pu.neq rfl rfl) rfl ?_
  refine O.nil ?_
  refine J.condF rfl rfl ?_
  refine J.skip ?_
  refine J.seq ?_
  refine J.seq ?_
  refine J.region ?_
  refine O.p (Pu.move rfl) rfl ?_
  refine O.q (Qt.lenM Try.runUnderlying24 rfl (Src.ro 0 rfl)) rfl ?_
  refine O.p (Pu.eql rfl rfl) rfl ?_
  refine O.nil ?_
  refine J.condT rfl rfl ?_
  refine J.seq ?_
  refine J.region ?_
  refine O.p (Pu.build [] [.int .i64 0, .int .i64 0, .int .i64 0, .int .i64 0, .int .i64 0, .int .i64 0, .int .i64 0, .int .i64 0, Value.slice none 0 0] #[(0, 7), (7, 1), (8, 1)] Try.runUnderlying28 Try.zeroValue28 (places28 Try.underlying28) rfl (by kernel_rfl)) rfl ?_
  refine O.l0 (Lo.store 0 (vs := [.int .i64 0, .int .i64 0, .int .i64 0, .int .i64 0, .int .i64 0, .int .i64 0, .int .i64 0, .int .i64 0, Value.slice none 0 0]) [.int .i64 0, .int .i64 0, .int .i64 0, .int .i64 0, .int .i64 0, .int .i64 0, .int .i64 0, .int .i64 0, Value.slice none 0 0] rfl rfl rfl (by exact Try.sizeOf28) rfl rfl rfl rfl rfl) ?_
  rintro _ _ rfl
  refine O.p (Pu.assign rfl) rfl ?_
  refine O.p (Pu.assign rfl) rfl ?_
  refine O.nil ?_
  exact J.ret (Fin.ret (rs := [.cell 4 28, .tmp 5, .tmp 6]) rfl [_, _, _] ⟨⟨_, _, 0, 0, _, rfl, (Cel.var 0 rfl), rfl, (Cut.agg [.int .i64 0, .int .i64 0, .int .i64 0, .int .i64 0, .int .i64 0, .int .i64 0, .int .i64 0, .int .i64 0, Value.slice none 0 0] Try.isAgg28 Try.sizeOf28 rfl rfl)⟩, rfl, rfl, trivial⟩ [] (by decide) [] rfl ⟨rfl, rfl⟩)

set_option maxRecDepth 100000 in
theorem r32_DoneNo (x0 x1 x2 x3 x4 x5 x6 : Int) (ph : Int) (qv lv : Value) (l : List Int) (hq : Value.oneCell' qv = true) (hp : ph ≠ 1) : Tri Try.prog 32 #[.agg #[.int .i64 x0, .int .i64 x1, .int .i64 x2, .int .i64 x3, .int .i64 x4, .int .i64 x5, .int .i64 x6, .int .i64 ph, qv], lv] [rd lv 1 (l.map encZ)] [] (fun v L' => v = .tuple #[.agg #[.int .i64 0, .int .i64 0, .int .i64 0, .int .i64 0, .int .i64 0, .int .i64 0, .int .i64 0, .int .i64 0, Value.slice none 0 0], .int .i64 0, .int .i64 12] ∧ L' = []) := by
  refine Tri.enter (args := [.agg #[.int .i64 x0, .int .i64 x1, .int .i64 x2, .int .i64 x3, .int .i64 x4, .int .i64 x5, .int .i64 x6, .int .i64 ph, qv], lv]) (body := _) 20 Try.func32 rfl Try.ntmps32 rfl ?_
  intro w0
  refine J.seq ?_
  refine J.region ?_
  refine O.l (Lo.box [.int .i64 x0, .int .i64 x1, .int .i64 x2, .int .i64 x3, .int .i64 x4, .int .i64 x5, .int .i64 x6, .int .i64 ph, qv] rfl rfl) rfl ?_
  rintro _ _ ⟨g1, rfl, rfl⟩
  refine O.l (Lo.alloc [.int .i64 0, .int .i64 0, .int .i64 0, .int .i64 0, .int .i64 0, .int .i64 0, .int .i64 0, .int .i64 0, Value.slice none 0 0] (by exact Try.zeroValue28) rfl) rfl ?_
  rintro _ _ ⟨g2, rfl, rfl⟩
  refine O.p (Pu.assign rfl) rfl ?_
  refine O.p (Pu.assign rfl) rfl ?_
  refine O.nil ?_
  refine J.seq ?_
  refine J.seq ?_
  refine J.region ?_
  refine O.p (Pu.fieldAddr (off' := 7) Try.runUnderlying28 rfl Try.sizeOf3 rfl rfl rfl) rfl ?_
  refine O.q (Qt.ld rfl (Cel.var 1 rfl) (o := 0) (off := 7) rfl (Cut.one Try.isAgg3 rfl)) rfl ?_
  refine O.p (Pu.neq rfl rfl) rfl ?_
  refine O.nil ?_
  refine J.condT rfl (decide_eq_true hp) ?_
  refine J.seq ?_
  refine J.region ?_
  refine O.p (Pu.build [] [.int .i64 0, .int .i64 0, .int .i64 0, .int .i64 0, .int .i64 0, .int .i64 0, .int .i64 0, .int .i64 0, Value.slice none 0 0] #[(0, 7), (7, 1), (8, 1)] Try.runUnderlying28 Try.zeroValue28 (places28 Try.underlying28) rfl (by kernel_rfl)) rfl ?_
  refine O.l0 (Lo.store 0 (vs := [.int .i64 0, .int .i64 0, .int .i64 0, .int .i64 0, .int .i64 0, .int .i64 0, .int .i64 0, .int .i64 0, Value.slice none 0 0]) [.int .i64 0, .int .i64 0, .int .i64 0, .int .i64 0, .int .i64 0, .int .i64 0, .int .i64 0, .int .i64 0, Value.slice none 0 0] rfl rfl rfl (by exact Try.sizeOf28) rfl rfl rfl rfl rfl) ?_
  rintro _ _ rfl
  refine O.p (Pu.assign rfl) rfl ?_
  refine O.p (Pu.assign rfl) rfl ?_
  refine O.nil ?_
  exact J.ret (Fin.ret (rs := [.cell 4 28, .tmp 5, .tmp 6]) rfl [_, _, _] ⟨⟨_, _, 0, 0, _, rfl, (Cel.var 0 rfl), rfl, (Cut.agg [.int .i64 0, .int .i64 0, .int .i64 0, .int .i64 0, .int .i64 0, .int .i64 0, .int .i64 0, .int .i64 0, Value.slice none 0 0] Try.isAgg28 Try.sizeOf28 rfl rfl)⟩, rfl, rfl, trivial⟩ [] (by decide) [] rfl ⟨rfl, rfl⟩)

end Go.Proofs.Ytnkhmbbnabejhaa
