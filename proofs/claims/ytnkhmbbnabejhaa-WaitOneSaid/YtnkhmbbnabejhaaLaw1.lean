/-
  Arguments that come by value: structs and arrays of integers, opened.
-/
import Derived.Test.YtnkhmbbnabejhaaLaw0
namespace Go.LK
open Go Go.ChangeShapes Go.WideShapes Go.RowKit Go.Deep

section
variable {H : Type} {enc : TypeId × Value → H} {P : Program} {W : World}

theorem ints_of {cs : Array Value} {s : Nat} (hs : cs.size = s) (h : ∀ j, j < s → ∃ q : Int, cs[j]? = some (.int .i64 q) ∧ -9223372036854775808 ≤ q ∧ q ≤ 9223372036854775807) :
    ∃ g : Nat → Int, cs = ((List.range s).map fun j => Value.int .i64 (g j)).toArray ∧ ∀ j, j < s → -9223372036854775808 ≤ g j ∧ g j ≤ 9223372036854775807 := by
  let g : Nat → Int := fun j => if h' : j < s then Classical.choose (h j h') else 0
  have hg : ∀ j, j < s → cs[j]? = some (.int .i64 (g j)) ∧ -9223372036854775808 ≤ g j ∧ g j ≤ 9223372036854775807 := fun j hj => by
    simp only [g, hj, dif_pos]; exact Classical.choose_spec (h j hj)
  refine ⟨g, ?_, fun j hj => (hg j hj).2⟩
  apply Array.ext
  · simp [hs]
  · intro i h1 h2
    have := (hg i (by omega)).1
    rw [Array.getElem?_eq_getElem h1] at this
    simpa using Option.some.inj this

theorem open_sint (s : Nat) {t : TypeId} {fs : Array Field} {v : Value} {d : DataW H} {p : List MemPlace} {base : Nat} (ht : P.underlying t = some (.struct fs)) (hone : oneCellFields P fs = true) (hC : P.cellsOf t = s) (hsz : fs.size = s)
    (hint : ∀ (j : Nat) (g : Field), fs[j]? = some g → P.underlying g.type = some (.int .i64)) (hv : Value.okWide P W .any base t v) (h : DataW.Trod enc P W 0 (fun _ => true) true t v d p) :
    ∃ g : Nat → Int, v = .agg ((List.range s).map fun j => Value.int .i64 (g j)).toArray ∧ ∀ j, j < s → -9223372036854775808 ≤ g j ∧ g j ≤ 9223372036854775807 := by
  obtain ⟨cs, rfl, hcs⟩ := okWide_struct ht hv
  obtain ⟨fuel, hf⟩ := h
  obtain ⟨xs, n, _, _, hl, hxl, hat⟩ := DataW.trod_struct ht hf
  have hl' : cs.size = s := by rw [hcs, hC]
  obtain ⟨g, hg, hb⟩ := ints_of hl' fun j hj => by
    obtain ⟨ho, hk⟩ := hone_of hone j fs[j] (Array.getElem?_eq_getElem (by omega))
    have h1 := hat j fs[j] (Array.getElem?_eq_getElem (by omega))
    rw [ho, hk, List.getElem?_eq_getElem (by omega)] at h1
    have hone' : ((Value.agg cs).cells.toList.drop j).take 1 = [cs[j]'(by omega)] := by
      rw [show (Value.agg cs).cells = cs from rfl, List.drop_eq_getElem_cons (by simp; omega)]
      simp
    rw [hone'] at h1
    obtain ⟨q, hq, _, hwf⟩ := DataW.trod_int (hint j fs[j] (Array.getElem?_eq_getElem (by omega))) h1
    exact ⟨q, by rw [Array.getElem?_eq_getElem (by omega)]; simpa using hq, bounds_i64 hwf⟩
  exact ⟨g, by rw [hg], hb⟩

theorem open_aint (s : Nat) {t e : TypeId} {v : Value} {d : DataW H} {p : List MemPlace} {base : Nat} (ht : P.underlying t = some (.array s e)) (he : P.underlying e = some (.int .i64)) (hC : P.cellsOf t = s) (hE : P.cellsOf e = 1)
    (hv : Value.okWide P W .any base t v) (h : DataW.Trod enc P W 0 (fun _ => true) true t v d p) :
    ∃ g : Nat → Int, v = .agg ((List.range s).map fun j => Value.int .i64 (g j)).toArray ∧ ∀ j, j < s → -9223372036854775808 ≤ g j ∧ g j ≤ 9223372036854775807 := by
  obtain ⟨cs, rfl, hcs⟩ : ∃ cs, v = .agg cs ∧ cs.size = P.cellsOf t := by
    simp only [Value.okWide, ht] at hv
    obtain ⟨cs, h1, h2, _⟩ := hv
    exact ⟨cs, h1, h2⟩
  obtain ⟨fuel, hf⟩ := h
  obtain ⟨xs, n, _, _, hl, hxl, hat⟩ := DataW.trod_array ht hf
  have hl' : cs.size = s := by rw [hcs, hC]
  obtain ⟨g, hg, hb⟩ := ints_of hl' fun j hj => by
    have h1 := hat j hj
    rw [hE, Nat.mul_one, List.getElem?_eq_getElem (by omega)] at h1
    have hone' : ((Value.agg cs).cells.toList.drop j).take 1 = [cs[j]'(by omega)] := by
      rw [show (Value.agg cs).cells = cs from rfl, List.drop_eq_getElem_cons (by simp; omega)]
      simp
    rw [hone'] at h1
    obtain ⟨q, hq, _, hwf⟩ := DataW.trod_int he h1
    exact ⟨q, by rw [Array.getElem?_eq_getElem (by omega)]; simpa using hq, bounds_i64 hwf⟩
  exact ⟨g, by rw [hg], hb⟩
end
end Go.LK
