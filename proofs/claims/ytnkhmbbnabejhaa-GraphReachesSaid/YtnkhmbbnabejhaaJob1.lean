/-
  The plain law of jobs, further: who was heard.
-/
import Derived.Test.YtnkhmbbnabejhaaJob0
import Derived.Lib.RowBridge
namespace Go.LK
structure An where
  call : Int
  code : Int
def An.cells (e : An) : List Value := [.int .i64 e.call, .int .i64 e.code]
theorem An.one {l : List An} : ∀ a ∈ l, (An.cells a).all Value.oneCell' = true := fun _ _ => rfl
def encBo (b : Bool) : List Value := [.bool b]
theorem encBo.one {l : List Bool} : ∀ a ∈ l, (encBo a).all Value.oneCell' = true := fun _ _ => rfl
end Go.LK
namespace Go.LK.Jb
open Go Go.LK
/-- The place of a number in a row. -/
def IdxP (l : List Int) (x k : Int) : Prop := (k = -1 ∧ x ∉ l) ∨ ∃ n : Nat, k = n ∧ l[n]? = some x ∧ ∀ j, j < n → ∀ y, l[j]? = some y → y ≠ x
theorem idx_no {l : List Int} {x : Int} {k : Nat} (h : ∀ j, j < k → ∀ y, l[j]? = some y → y ≠ x) (hk : ¬ k < l.length) : IdxP l x (-1) := .inl ⟨rfl, fun hm => by
  obtain ⟨j, hj⟩ := List.mem_iff_getElem?.1 hm
  have := (List.getElem?_eq_some_iff.1 hj).1
  exact h j (by omega) x hj rfl⟩
theorem idx_yes {l : List Int} {x y : Int} {k : Nat} (h : ∀ j, j < k → ∀ y, l[j]? = some y → y ≠ x) (hy : l[k]? = some y) (he : x = y) : IdxP l x (k : Int) := .inr ⟨k, rfl, by rw [hy, he], h⟩
theorem idx_next {l : List Int} {x y : Int} {k : Nat} (h : ∀ j, j < k → ∀ y, l[j]? = some y → y ≠ x) (hy : l[k]? = some y) (he : ¬ x = y) : ∀ j, j < k + 1 → ∀ y, l[j]? = some y → y ≠ x := fun j hj z hz => by
  rcases Nat.lt_or_ge j k with h1 | h1
  · exact h j h1 z hz
  · have : j = k := by omega
    subst this
    rw [hy] at hz; cases hz
    exact fun h => he h.symm
theorem idx_mem {l : List Int} {x k : Int} (h : IdxP l x k) : 0 ≤ k ↔ x ∈ l := by
  rcases h with ⟨rfl, h⟩ | ⟨n, rfl, h, _⟩
  · exact ⟨fun h => by omega, fun h2 => absurd h2 h⟩
  · exact ⟨fun _ => List.mem_of_getElem? h, fun _ => by omega⟩
theorem idx_at {l : List Int} {x k : Int} (h : IdxP l x k) (h0 : 0 ≤ k) : l[k.toNat]? = some x ∧ k < l.length ∧ k.toNat + 1 = (k + 1).toNat := by
  rcases h with ⟨rfl, _⟩ | ⟨n, rfl, h, _⟩
  · omega
  · refine ⟨by simpa using h, ?_, by omega⟩
    have := (List.getElem?_eq_some_iff.1 h).1
    omega
def without (l : List Int) (c : Int) : List Int := l.filter fun x => decide (x ≠ c)
theorem has_next {l : List Int} {x y : Int} {k : Nat} (h : x ∉ l.take k) (hy : l[k]? = some y) (hn : ¬ y = x) : x ∉ l.take (k + 1) := by
  rw [List.take_add_one, hy, List.mem_append]
  simp only [Option.toList_some, List.mem_singleton, not_or]
  exact ⟨h, fun he => hn he.symm⟩
theorem has_hit {l : List Int} {x y : Int} {k : Nat} (hy : l[k]? = some y) (he : y = x) : x ∈ l := he ▸ List.mem_of_getElem? hy
theorem has_miss {l : List Int} {x : Int} {k : Nat} (h : x ∉ l.take k) (hk : ¬ k < l.length) : x ∉ l := by rwa [List.take_of_length_le (by omega)] at h
/-! ### Who was heard -/
def seen (l : List An) (k : Nat) (x : Int) : Bool := (l.take k).any fun a => decide (a.call = x)
section
variable {needs : List Int} {l : List An} {k q : Nat} {a : An} {x : Int}
end
end Go.LK.Jb
