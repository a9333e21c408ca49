/-
  A slice of integers, opened to its cells; read as a list.
-/
import Derived.Test.YtnfkoohgdcocdaaDoorLaw3
import Derived.Test.YtnfkoohgdcocdaaDoorLk21
import Derived.ChangeSlices
namespace Go.LK
open Go Go.RowKit Go.ChangeShapes Go.WideShapes Go.ChangeAt
section
variable {H : Type} {enc : TypeId × Value → H} {P : Program} {W : World}
theorem open_zs {t e : TypeId} {v : Value} {d : DataW H} {p : List MemPlace} {base : Nat} (ht : P.underlying t = some (.slice e)) (he : P.underlying e = some (.int .i64)) (hone : P.cellsOf e = 1) (hv : Value.okWide P W .any base t v) (h : DataW.Trod enc P W 0 (fun _ => true) true t v d p) :
    ∃ l : List Int, Elt W v 1 (l.map encZ) ∧ ∀ x ∈ l, Dc.I64 x := by
  obtain ⟨A, len, cap, rfl⟩ := okWide_slice ht hv
  obtain ⟨fuel, hf⟩ := h
  rcases ChangeShapes.open_ints ht he hone hf with ⟨hcs, _⟩ | ⟨a, len', cap', zs, hcs, _, hlc, hcm, hzl, _, hcell, hwf⟩
  · have hcs' : Value.slice A len cap = .slice none 0 0 := by simpa [Value.cells] using hcs
    rw [hcs']
    exact ⟨[], ⟨by simp, ⟨none, 0, rfl, by simp, by simp [maxLen]⟩, fun h => absurd rfl h, fun i e j u hi => by simp at hi⟩, by simp⟩
  · have hcs' : Value.slice A len cap = .slice (some a) len' cap' := by simpa [Value.cells] using hcs
    rw [hcs']
    have hz : zs.length = cap' := by simpa using hzl
    have hll : (zs.take len').length = len' := by rw [List.length_take]; omega
    have hlen : ((zs.take len').map encZ).length = len' := by rw [List.length_map, hll]
    have haddr : 0 < len' → a = ⟨vblk (.slice (some a) len' cap'), voff (.slice (some a) len' cap'), none⟩ := fun h0 => by
      have h2 := hcell 0 (by omega)
      simp only [Addr.add, if_true] at h2
      obtain ⟨b, o, sp⟩ := a
      cases sp with
      | none => rfl
      | some q =>
        exfalso
        simp only [World.cell?] at h2
        split at h2 <;> simp at h2
    refine ⟨zs.take len', ⟨?_, ⟨_, cap', by rw [hlen], by rw [hlen]; exact hlc, hcm⟩, ?_, ?_⟩, ?_⟩
    · intro x hx
      obtain ⟨_, _, rfl⟩ := List.mem_map.1 hx
      rfl
    · intro hne
      have h0 : 0 < len' := by
        rcases Nat.eq_zero_or_pos len' with h | h
        · subst h; exact absurd (by simp) hne
        · exact h
      exact ⟨cap', by rw [hlen]; exact congrArg (fun z => Value.slice (some z) len' cap') (haddr h0)⟩
    · intro i e' j u hi hj
      rw [List.getElem?_map] at hi
      obtain ⟨x, hx, rfl⟩ := Option.map_eq_some_iff.1 hi
      have hlt := (List.getElem?_eq_some_iff.1 hx).1
      rw [hll] at hlt
      rw [List.getElem?_take_of_lt hlt] at hx
      have hj0 : j = 0 ∧ u = .int .i64 x := by
        cases j with
        | zero => simp [encZ] at hj; exact ⟨rfl, hj.symm⟩
        | succ j => simp [encZ] at hj
      obtain ⟨rfl, rfl⟩ := hj0
      have h4 := hcell i (by omega)
      rw [haddr (by omega), add_at] at h4
      rw [Nat.mul_one, Nat.add_zero, h4, List.getD_eq_getElem?_getD, hx]
      rfl
    · intro x hx
      exact i64_of (hwf x (List.mem_of_mem_take hx))
end
end Go.LK
