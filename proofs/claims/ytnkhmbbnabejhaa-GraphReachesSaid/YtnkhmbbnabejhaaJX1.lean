/-
  Walks, printed by a program of mine (lk.py): each function meets its contract.
-/
import Derived.KernelRfl
import Derived.Test.YtnkhmbbnabejhaaNumsA
import Derived.Test.YtnkhmbbnabejhaaJob1
import Derived.Test.YtnkhmbbnabejhaaShelf
namespace Go.Proofs.Ytnkhmbbnabejhaa
open Go Go.LK
set_option linter.unusedSimpArgs false

theorem flat_encZ (l : List Int) : (l.map encZ).flatten = l.map (Value.int .i64) := by
  induction l with
  | nil => rfl
  | cons x l ih => simp only [List.map_cons, List.flatten_cons, ih]; rfl
theorem row_sorted {w : World} {g cap n : Nat} {e : TypeId} {os : Array Obj} {cur : Array Value} {zs ts us : List Int} (hl : ts.length = zs.length) (hu : us = ts.take us.length) (hg : w.heap[g]? = some (.cells cur e (0, 0))) (h1 : zs.length ≤ cap) (h2 : cap ≤ maxLen) (h3 : cur.size = cap * 1) :
    (row (.slice (some ⟨g, 0, none⟩) us.length cap) e 1 (us.map encZ)).holds (Go.Sort.grow (Go.Sort.putRow (Value.int .i64) (Go.Sort.ahead w n) g 0 ts.toArray) os) := by
  have hus : us.length ≤ ts.length := by rw [hu, List.length_take]; omega
  refine ⟨⟨by rw [flat_encZ]; simp, .inr ⟨g, cap, _, by rw [List.length_map], Nat.zero_le _, heap_sortedI _ hg, by rw [List.length_map]; omega, h2, by simp [Go.Sort.putCells, h3], ?_⟩⟩, fun x hx => ?_⟩
  · rw [flat_encZ, List.length_map, Nat.mul_one]
    have ht := take_putCellsI cur ts (by omega)
    have := congrArg (List.take us.length) ht
    rw [List.take_take, Nat.min_eq_left hus, ← List.map_take, ← hu] at this
    exact this
  · obtain ⟨y, _, rfl⟩ := List.mem_map.1 hx; rfl
theorem sorted_st {w : World} {M : List Nat} {g n : Nat} {os : Array Obj} {d : Array Int} {A : Sp} (hM : M = [g]) (hA : A.foot = [g]) (hh : A.holds (Go.Sort.grow (Go.Sort.putRow (Value.int .i64) (Go.Sort.ahead w n) g 0 d) os)) : St w M [A] (Go.Sort.grow (Go.Sort.putRow (Value.int .i64) (Go.Sort.ahead w n) g 0 d) os) := by
  subst hM
  have hb := grownBy_sortedI (w := w) (g := g) (n := n) (os := os) d
  refine ⟨⟨hb.os, hb.tape, hb.output, hb.size, fun k hk hn => hb.block k hk fun he => hn (by simp at he; simp [he])⟩, by simpa using hh, by simp, fun k hk => .inr ?_⟩
  rw [feet_cons, hA] at hk
  simpa using hk
theorem s_Sort (V : Value) (zs : List Int) (hl : zs.length ≤ 1000000) : Tri Try.prog 51 #[V] [] [row V 3 1 (zs.map encZ)] (fun v L' => v = .tuple #[] ∧ L' = [row V 3 1 ((zs.mergeSort (fun x y => decide (x ≤ y))).map encZ)]) := fun w _ hst => by
  obtain ⟨ho, _⟩ := hst.at_ _ (List.mem_singleton_self _)
  rcases ho.2 with ⟨rfl, hn⟩ | ⟨g, cap, cur, rfl, _, hg, hnc, hcm, hcs, htake⟩
  · have : zs = [] := by simpa using hn
    subst this
    exact (Try.slices_Sort_int_none none 0 w).mono fun e w' ⟨he, hw⟩ => ⟨_, _, he, ⟨rfl, rfl⟩, by subst hw; simpa using hst⟩
  · rw [List.length_map] at hnc htake
    rw [flat_encZ, Nat.mul_one] at htake
    have hb : g < w.heap.size := (Array.getElem?_eq_some_iff.1 hg).1
    rw [List.length_map] at hst ⊢
    refine (Try.slices_Sort_int g 0 cap zs w (holds_of_blockI hg htake) hb (by omega)).mono fun e w' ⟨he, n, os, hw⟩ => ⟨_, _, he, ⟨rfl, rfl⟩, ?_⟩
    subst hw
    have hs := row_sorted (us := zs.mergeSort (fun x y => decide (x ≤ y))) (ts := zs.mergeSort (fun x y => decide (x ≤ y))) (n := n) (os := os) (List.length_mergeSort zs) (by rw [List.take_length]) hg hnc hcm hcs
    rw [List.length_mergeSort] at hs
    exact sorted_st rfl rfl hs

set_option maxRecDepth 100000 in
theorem s_Index (sv : Value) (l : List Int) (x : Int) (hl : l.length ≤ 100000) : Tri Try.prog 56 #[sv, .int .i64 x] [rd sv 1 (l.map encZ)] [] (fun v L' => ∃ k, v = .int .i64 k ∧ Jb.IdxP l x k ∧ L' = []) := by
 refine Tri.enter (args := [sv, .int .i64 x]) (body := _) 19 Try.func56 rfl Try.ntmps56 rfl ?_
 intro w0
 refine J.seq ?_
 refine J.region ?_
 refine O.p (Pu.assign rfl) rfl ?_
 refine O.nil ?_
 refine J.seq ?_
 refine J.seq ?_
 refine J.region ?_
 refine O.p (Pu.move rfl) rfl ?_
 refine O.q (Qt.lenM Try.runUnderlying24 rfl (Src.ro 0 rfl)) rfl ?_
 refine O.p (Pu.move rfl) rfl ?_
 refine O.nil ?_
 refine J.block ?_
 refine J.loop (X := Nat) (fun ξ => ξ ≤ l.length ∧ ∀ j, j < ξ → ∀ y, l[j]? = some y → y ≠ x) (fun ξ => [(0, sv), (1, .int .i64 x), (7, .int .i64 (l.length : Int)), (8, .int .i64 (ξ : Int))]) (fun ξ => []) (fun ξ => l.length - ξ) 0 (show 0 ≤ l.length ∧ ∀ j, j < 0 → ∀ y, l[j]? = some y → y ≠ x from ⟨by omega, fun j hj => absurd hj (Nat.not_lt_zero _)⟩) ⟨rfl, rfl, rfl, (congrArg (fun z => some (Value.int .i64 z)) (by first | rfl | omega : (0 : Int) = (0 : Int))), trivial⟩ [] (by decide) rfl ?_
 rintro k hq1
 obtain ⟨hk, hno⟩ : k ≤ l.length ∧ ∀ j, j < k → ∀ y, l[j]? = some y → y ≠ x := hq1
 show J _ _ [(0, sv), (1, .int .i64 x), (7, .int .i64 (l.length : Int)), (8, .int .i64 (k : Int))] []
 refine J.seq ?_
 refine J.region ?_
 refine O.p (Pu.lss rfl rfl) rfl ?_
 refine O.nil ?_
 refine J.seq ?_
 refine J.cond rfl (fun h2 => ?_) (fun h2 => ?_)
 ·
  have p3 := of_decide_eq_true h2
  refine J.skip ?_
  refine J.seq ?_
  refine J.block ?_
  refine J.seq ?_
  refine J.region ?_
  refine O.p (Pu.move rfl) rfl ?_
  refine O.p (Pu.assign rfl) rfl ?_
  refine O.nil ?_
  refine J.seq ?_
  refine J.region ?_
  refine O.p (Pu.move rfl) rfl ?_
  refine O.p (Pu.move rfl) rfl ?_
  refine O.p (Pu.move rfl) rfl ?_
  obtain ⟨e4, he4⟩ : ∃ x_, l[k]? = some x_ := ⟨_, List.getElem?_eq_getElem (by omega)⟩
  refine O.q (Qt.idxM Try.runUnderlying24 Try.sizeOf3 rfl (Src.ro 0 rfl) rfl (by omega) (by omega)) rfl ?_
  refine O.q (Qt.ld rfl (Cel.eltM (Src.ro 0 rfl) he4) (o := (voff sv + k * 1)) (off := 0) (by omega) (Cut.one Try.isAgg3 rfl)) rfl ?_
  refine O.p (Pu.eql rfl rfl) rfl ?_
  refine O.nil ?_
  refine J.cond rfl (fun h5 => ?_) (fun h5 => ?_)
  ·
   have p6 := of_decide_eq_true h5
   refine J.seq ?_
   refine J.region ?_
   refine O.p (Pu.move rfl) rfl ?_
   refine O.p (Pu.assign rfl) rfl ?_
   refine O.nil ?_
   exact J.ret (Fin.ret (rs := [.tmp 4]) rfl [_] ⟨rfl, trivial⟩ [] (by decide) [] rfl ⟨_, rfl, Jb.idx_yes hno he4 (by omega), rfl⟩)
  ·
   have p7 := of_decide_eq_false h5
   refine J.skip ?_
   refine J.blk ?_
   refine J.region ?_
   refine O.p (Pu.add' rfl rfl (by first | omega | (simp only [List.length_append, List.length_cons, List.length_nil, List.length_set]; omega))) rfl ?_
   refine O.p (Pu.move rfl) rfl ?_
   refine O.nil ?_
   exact J.lp (k + 1) (show (k + 1) ≤ l.length ∧ ∀ j, j < (k + 1) → ∀ y, l[j]? = some y → y ≠ x from ⟨by omega, Jb.idx_next hno he4 (by omega)⟩) (show l.length - (k + 1) < l.length - k from (by omega)) ⟨rfl, rfl, rfl, (congrArg (fun z => some (Value.int .i64 z)) (by first | rfl | omega : ((k : Int) + 1 : Int) = ((k + 1) : Int))), trivial⟩ [] (by decide) rfl
 ·
  have p8 := of_decide_eq_false h2
  refine J.exit _ rfl ?_
  refine J.seq ?_
  refine J.region ?_
  refine O.p (Pu.assign rfl) rfl ?_
  refine O.nil ?_
  exact J.ret (Fin.ret (rs := [.tmp 4]) rfl [_] ⟨rfl, trivial⟩ [] (by decide) [] rfl ⟨_, rfl, Jb.idx_no hno (by omega), rfl⟩)

end Go.Proofs.Ytnkhmbbnabejhaa
