/-
  The plain law of levels: pairs of a business and a class, by number.
-/
import Derived.Test.YtcojpllfkobkeaaDoorLk16
namespace Go.LK.Lv
open Go Go.LK

def split (b c l : Int) : Int × Int × Int := if 0 ≤ l ∧ l < b * c then (l / c, l % c, 0) else (0, 0, 1)
def of (b c x y : Int) : Int × Int := if 0 ≤ x ∧ x < b ∧ 0 ≤ y ∧ y < c then (x * c + y, 0) else (0, 1)
def right (b c : Int) : Bool := decide (1 ≤ b) && decide (b ≤ 8) && decide (1 ≤ c) && decide (c ≤ 16)
structure Grid (b c : Int) : Prop where
  b0 : 1 ≤ b
  b1 : b ≤ 8
  c0 : 1 ≤ c
  c1 : c ≤ 16
theorem right_iff {b c : Int} : right b c = true ↔ Grid b c := by
  simp only [right, Bool.and_eq_true, decide_eq_true_eq]
  exact ⟨fun ⟨⟨⟨h1, h2⟩, h3⟩, h4⟩ => ⟨h1, h2, h3, h4⟩, fun h => ⟨⟨⟨h.b0, h.b1⟩, h.c0⟩, h.c1⟩⟩
theorem Grid.mul {b c : Int} (h : Grid b c) : 1 ≤ b * c ∧ b * c ≤ 128 := by
  obtain ⟨h1, h2, h3, h4⟩ := h
  constructor
  · have := Int.mul_le_mul h1 h3 (by omega) (by omega)
    omega
  · have := Int.mul_le_mul h2 h4 (by omega) (by omega)
    omega

theorem split_in {b c l : Int} (h0 : 0 ≤ l) (h1 : l < b * c) : split b c l = (l / c, l % c, 0) := if_pos ⟨h0, h1⟩
theorem split_out {b c l : Int} (h : ¬ (0 ≤ l ∧ l < b * c)) : split b c l = (0, 0, 1) := if_neg h
theorem split_code {b c l : Int} : (split b c l).2.2 = 0 ↔ (0 ≤ l ∧ l < b * c) := by
  by_cases h : 0 ≤ l ∧ l < b * c
  · rw [split_in h.1 h.2]; simp [h]
  · rw [split_out h]; simp [h]
theorem row_at {b c x y : Int} (hc : 1 ≤ c) (hx : 0 ≤ x) (hxb : x < b) (hy : 0 ≤ y) (hyc : y < c) : 0 ≤ x * c + y ∧ x * c + y < b * c := by
  have h1 : 0 ≤ x * c := Int.mul_nonneg hx (by omega)
  have h2 : (x + 1) * c ≤ b * c := Int.mul_le_mul_of_nonneg_right (by omega) (by omega)
  rw [Int.add_mul, Int.one_mul] at h2
  omega
theorem row_div {c x y : Int} (hc : 1 ≤ c) (hy : 0 ≤ y) (hyc : y < c) : (x * c + y) / c = x ∧ (x * c + y) % c = y := by
  constructor
  · rw [Int.add_comm, Int.add_mul_ediv_right _ _ (by omega), Int.ediv_eq_zero_of_lt hy hyc, Int.zero_add]
  · rw [Int.add_comm, Int.add_mul_emod_self_right, Int.emod_eq_of_lt hy hyc]
theorem split_row {b c x y : Int} (hc : 1 ≤ c) (hx : 0 ≤ x) (hxb : x < b) (hy : 0 ≤ y) (hyc : y < c) : split b c (x * c + y) = (x, y, 0) := by
  obtain ⟨h0, h1⟩ := row_at hc hx hxb hy hyc
  obtain ⟨h2, h3⟩ := row_div (x := x) hc hy hyc
  rw [split_in h0 h1, h2, h3]
theorem of_at {b c k : Int} (hc : 1 ≤ c) (h0 : 0 ≤ k) (h1 : k < b * c) : of b c (k / c) (k % c) = (k, 0) := by
  have h2 := Int.emod_nonneg k (show c ≠ 0 by omega)
  have h3 := Int.emod_lt_of_pos k (show 0 < c by omega)
  have h4 := Int.ediv_lt_of_lt_mul (show 0 < c by omega) h1
  have h5 := Int.ediv_nonneg h0 (show 0 ≤ c by omega)
  have h6 := Int.ediv_mul_add_emod k c
  rw [of, if_pos ⟨h5, h4, h2, h3⟩, h6]
theorem of_none {b c x y : Int} (hc : 1 ≤ c) (h : ∀ k, 0 ≤ k → k < b * c → ¬ (k / c = x ∧ k % c = y)) : of b c x y = (0, 1) := by
  refine if_neg fun ⟨hx, hxb, hy, hyc⟩ => ?_
  obtain ⟨h0, h1⟩ := row_at hc hx hxb hy hyc
  exact h _ h0 h1 (row_div hc hy hyc)
theorem lex {c a b : Int} (hc : 1 ≤ c) : a < b ↔ (a / c < b / c ∨ a / c = b / c ∧ a % c < b % c) := by
  have ha := Int.ediv_mul_add_emod a c
  have hb := Int.ediv_mul_add_emod b c
  have h1 := Int.emod_nonneg a (show c ≠ 0 by omega)
  have h2 := Int.emod_lt_of_pos a (show 0 < c by omega)
  have h3 := Int.emod_nonneg b (show c ≠ 0 by omega)
  have h4 := Int.emod_lt_of_pos b (show 0 < c by omega)
  have key : ∀ p q : Int, p < q → p * c + c ≤ q * c := fun p q h => by
    have := Int.mul_le_mul_of_nonneg_right (show p + 1 ≤ q by omega) (show 0 ≤ c by omega)
    rw [Int.add_mul, Int.one_mul] at this
    exact this
  rcases Int.lt_trichotomy (a / c) (b / c) with h | h | h
  · have := key _ _ h; omega
  · rw [h] at ha; omega
  · have := key _ _ h; omega
end Go.LK.Lv
