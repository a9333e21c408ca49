/-
  Walks, printed by a program of mine (lk.py): each function meets its contract.
-/
import Derived.KernelRfl
import Derived.Test.YtohjlkjhpibkmaaGreatDoorNumsT
import Derived.Test.YtohjlkjhpibkmaaGreatDoorJobA
import Derived.Test.YtohjlkjhpibkmaaGreatDoorShelf
import Derived.Test.YtohjlkjhpibkmaaGreatDoorLkF
namespace Go.Proofs.YtohjlkjhpibkmaaGreatDoor
open Go Go.LK
set_option linter.unusedSimpArgs false

theorem flat_encZ (l : List Int) : (l.map encZ).flatten = l.map (Value.int .i64) := by
  induction l with
  | nil => rfl
  | cons x l ih => simp only [List.map_cons, List.flatten_cons, ih]; rfl
theorem row_sorted {w : World} {g cap n : Nat} {e : TypeId} {os : Array Obj} {cur : Array Value} {zs ts us : List Int} (hl : ts.length = zs.length) (hu : us = ts.take us.length) (hg : w.heap[g]? = some (.cells cur e (0, 0))) (h1 : zs.length ≤ cap) (h2 : cap ≤ maxLen) (h3 : cur.size = cap * 1) :
    (row (.slice (some ⟨g, 0, none⟩) us.length cap) e 1 (us.map encZ)).holds (Go.Sort.grow (Go.Sort.putRow (Value.int .i64) (Go.Sort.ahead w n) g 0 ts.toArray) os) := by
  have hus : us.length ≤ ts.length := by rw [hu, List.length_take]; omega
  refine ⟨⟨by rw [flat_encZ]; simp, .inr ⟨g, cap, _, by rw [List.length_map], Nat.zero_le _, heap_sortedI _ hg, by rw [List.length_map]; omega, h2, by simp [Go.Sort.putCells, h3], ?_⟩⟩, fun x hx => ?_⟩
  · rw [flat_encZ, List.length_map, Nat.mul_one]
    have ht := take_putCellsI cur ts (by omega)
    have := congrArg (List.take us.length) ht
    rw [List.take_take, Nat.min_eq_left hus, ← List.map_take, ← hu] at this
    exact this
  · obtain ⟨y, _, rfl⟩ := List.mem_map.1 hx; rfl
theorem sorted_st {w : World} {M : List Nat} {g n : Nat} {os : Array Obj} {d : Array Int} {A : Sp} (hM : M = [g]) (hA : A.foot = [g]) (hh : A.holds (Go.Sort.grow (Go.Sort.putRow (Value.int .i64) (Go.Sort.ahead w n) g 0 d) os)) : St w M [A] (Go.Sort.grow (Go.Sort.putRow (Value.int .i64) (Go.Sort.ahead w n) g 0 d) os) := by
  subst hM
  have hb := grownBy_sortedI (w := w) (g := g) (n := n) (os := os) d
  refine ⟨⟨hb.os, hb.tape, hb.output, hb.size, fun k hk hn => hb.block k hk fun he => hn (by simp at he; simp [he])⟩, by simpa using hh, by simp, fun k hk => .inr ?_⟩
  rw [feet_cons, hA] at hk
  simpa using hk
theorem s_Sort (V : Value) (zs : List Int) (hl : zs.length ≤ 1000000) : Tri Tryz.prog 274 #[V] [] [row V 3 1 (zs.map encZ)] (fun v L' => v = .tuple #[] ∧ L' = [row V 3 1 ((zs.mergeSort (fun x y => decide (x ≤ y))).map encZ)]) := fun w _ hst => by
  obtain ⟨ho, _⟩ := hst.at_ _ (List.mem_singleton_self _)
  rcases ho.2 with ⟨rfl, hn⟩ | ⟨g, cap, cur, rfl, _, hg, hnc, hcm, hcs, htake⟩
  · have : zs = [] := by simpa using hn
    subst this
    exact (Tryz.slices_Sort_int_none none 0 w).mono fun e w' ⟨he, hw⟩ => ⟨_, _, he, ⟨rfl, rfl⟩, by subst hw; simpa using hst⟩
  · rw [List.length_map] at hnc htake
    rw [flat_encZ, Nat.mul_one] at htake
    have hb : g < w.heap.size := (Array.getElem?_eq_some_iff.1 hg).1
    rw [List.length_map] at hst ⊢
    refine (Tryz.slices_Sort_int g 0 cap zs w (holds_of_blockI hg htake) hb (by omega)).mono fun e w' ⟨he, n, os, hw⟩ => ⟨_, _, he, ⟨rfl, rfl⟩, ?_⟩
    subst hw
    have hs := row_sorted (us := zs.mergeSort (fun x y => decide (x ≤ y))) (ts := zs.mergeSort (fun x y => decide (x ≤ y))) (n := n) (os := os) (List.length_mergeSort zs) (by rw [List.take_length]) hg hnc hcm hcs
    rw [List.length_mergeSort] at hs
    exact sorted_st rfl rfl hs

end Go.Proofs.YtohjlkjhpibkmaaGreatDoor
