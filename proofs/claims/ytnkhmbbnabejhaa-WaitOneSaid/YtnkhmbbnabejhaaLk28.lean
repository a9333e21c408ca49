/-
  make([]T, n), n a number that is not known.
-/
import Derived.Test.YtnkhmbbnabejhaaLk27
namespace Go.LK
open Go Go.RowKit
theorem range_cells {zc : Array Value} {s m : Nat} (hs : zc.size = s) (hs0 : 0 < s) : (Array.range (m * s)).map (zc[· % zc.size]!) = (List.replicate m zc.toList).flatten.toArray := by
  have hl : ∀ x ∈ List.replicate m zc.toList, x.length = s := fun x hx => by rw [List.eq_of_mem_replicate hx]; simpa using hs
  apply Array.ext_getElem?
  intro i
  by_cases hi : i < m * s
  · have h1 : i / s < m := Nat.div_lt_of_lt_mul (by rw [Nat.mul_comm]; exact hi)
    have h2 : i % s < zc.size := by rw [hs]; exact Nat.mod_lt _ hs0
    have h3 := flatten_at (i := i / s) (e := zc.toList) (j := i % s) (u := zc[i % s]) hl (by rw [List.getElem?_replicate, if_pos h1]) (by simp [h2])
    rw [show i / s * s + i % s = i from by rw [Nat.mul_comm]; exact Nat.div_add_mod i s] at h3
    rw [Array.getElem?_map, Array.getElem?_range, List.getElem?_toArray, h3]
    simp only [hi, if_true, Option.map_some, hs]
    rw [getElem!_pos zc (i % s) h2]
  · rw [Array.getElem?_eq_none (by simp; omega), List.getElem?_toArray, List.getElem?_eq_none (by rw [length_flatten hl]; simp; omega)]
theorem Lo.makeSliceN {α : Type} {z : α} {f : α → List Value} {t T ty : TypeId} {c : Cx} {E : Env} {L : List Sp} {m s bytes : Nat} {q : Int} {inf : TypeInfo} {zv : Value} {x y : Operand} (hT : ∀ w, (underlying T).run c.P w = .ok (.slice t) w) (hi : ∀ w, (typeInfo t).run c.P w = .ok inf w) (hb : inf.bytes = bytes) (hs : ∀ w, (sizeOf t).run c.P w = .ok s w) (hz : ∀ w, (zeroValue t).run c.P w = .ok zv w)
    (hx : ev E x = some (.int .i64 q)) (hy : ev E y = some (.int .i64 q)) (hq : q = (m : Int)) (hm : m ≤ 1000000) (hbs : bytes ≤ 1000) (hsz : zv.cells.size = s) (hs0 : Nat.blt 0 s = true) (hs1 : s ≤ 1000) (hf : zv.cells.toList = f z) :
    Lo c E L (.makeSlice T x y) ty fun v L' => L' = row v t s ((List.replicate m z).map f) :: L := fun _ a w ha hst d pos af g K Q hK => by
  subst hq
  have hs0' : 0 < s := Nat.lt_of_not_le fun h => by have : s = 0 := by omega
                                                    subst this; simp [Nat.blt] at hs0
  have hels : (List.replicate m z).map f = List.replicate m zv.cells.toList := by rw [List.map_replicate, hf]
  have hle' : ∀ x ∈ List.replicate m zv.cells.toList, x.length = s := fun x hx => by rw [List.eq_of_mem_replicate hx]; simpa using hsz
  have hw : IntKind.i64.wrap (m : Int) = m := by
    simp [IntKind.wrap, IntKind.bits, IntKind.signed]; omega
  have hb2 : ¬ (281474976710656 < (bytes : Int) * (m : Int)) := by
    have h : bytes * m ≤ 1000 * 1000000 := Nat.mul_le_mul hbs hm
    have h2 := Int.ofNat_le.2 h
    rw [Int.natCast_mul] at h2
    exact fun hc => absurd (Int.lt_of_lt_of_le hc h2) (by decide)
  have hn2 : ¬ ((m : Int) < 0) := by omega
  have hrc := range_cells (zc := zv.cells) (m := m) hsz hs0'
  refine wp_loud (v := .slice (some ⟨w.heap.size, 0, none⟩) m m) (w' := w.alloc (.cells (List.replicate m zv.cells.toList).flatten.toArray t)) ?_ (hK _ _ _ rfl (St.add hst (frame_alloc w _) ?_ (by simp [row, Value.ownBlock])))
  · by_cases hm0 : m = 0
    · subst hm0
      have hw0 : IntKind.i64.wrap 0 = 0 := by decide
      simp [execOp, ha.ev hx, ha.ev hy, Instr.makeSlice, asInt, asIntOf, hT, hi, hb, hs, hw0, run_newRow]
      rw [show Array.range 0 = #[] from Array.eq_empty_of_size_eq_zero (by simp)]
      simp
    · have hne : ¬ m * s = 0 := Nat.mul_ne_zero hm0 (by omega)
      simp [execOp, ha.ev hx, ha.ev hy, Instr.makeSlice, asInt, asIntOf, hT, hi, hb, hs, hz, hw, hb2, hn2, hm0, (by omega : ¬ s = 0), run_newRow]
      rw [hrc, if_neg hne]
  · rw [hels]
    refine ⟨?_, hle'⟩
    refine ⟨length_flatten hle', .inr ⟨w.heap.size, m, _, by simp, Nat.zero_le _, heap_alloc_new w _, by simp, ?_, by simp [length_flatten hle'], ?_⟩⟩
    · unfold maxLen; omega
    · rw [List.take_of_length_le (by simp [length_flatten hle'])]
end Go.LK
