/-
  The plain law of levels, as the walks ask for it.
-/
import Derived.Test.YtcojpllfkobkeaaDoorLevel0
import Derived.Test.YtcojpllfkobkeaaDoorDec0
namespace Go.LK.Lv
open Go Go.LK

def new (b c : Int) : Int × Int × Int := if right b c = true then (b, c, 0) else (0, 0, 1)
def Ok (b c : Int) : Prop := Grid b c ∨ (b = 0 ∧ c = 0)
theorem new_yes {b c : Int} (h : 1 ≤ b ∧ b ≤ 8 ∧ 1 ≤ c ∧ c ≤ 16) : new b c = (b, c, 0) := if_pos (right_iff.2 ⟨h.1, h.2.1, h.2.2.1, h.2.2.2⟩)
theorem new_no {b c : Int} (h : ¬ (1 ≤ b ∧ b ≤ 8 ∧ 1 ≤ c ∧ c ≤ 16)) : new b c = (0, 0, 1) := if_neg fun hc => by
  obtain ⟨h1, h2, h3, h4⟩ := right_iff.1 hc
  exact h ⟨h1, h2, h3, h4⟩
theorem new_grid {b c : Int} (h : right b c = true) : new b c = (b, c, 0) := if_pos h
theorem new_none {b c : Int} (h : right b c = false) : new b c = (0, 0, 1) := if_neg (by simp [h])
theorem new_ok {b c : Int} : Ok (new b c).1 (new b c).2.1 := by
  by_cases h : right b c = true
  · rw [new_grid h]; exact .inl (right_iff.1 h)
  · rw [new_none (by simpa using h)]; exact .inr ⟨rfl, rfl⟩
theorem Ok.mul {b c : Int} (h : Ok b c) : 0 ≤ b * c ∧ b * c ≤ 128 := by
  rcases h with h | ⟨rfl, rfl⟩
  · have := h.mul; omega
  · simp
theorem Ok.row {b c x : Int} (h : Ok b c) (h0 : 0 ≤ x) (h1 : x < b) (y : Int) (h2 : 0 ≤ y) (h3 : y < c) : 0 ≤ x * c ∧ x * c + y < 128 := by
  rcases h with h | ⟨rfl, rfl⟩
  · have h4 := row_at h.c0 h0 h1 h2 h3
    have h5 := h.mul
    have h6 : 0 ≤ x * c := Int.mul_nonneg h0 (by omega)
    omega
  · omega
theorem of_yes {b c x y : Int} (h : 0 ≤ x ∧ x < b ∧ 0 ≤ y ∧ y < c) : of b c x y = (x * c + y, 0) := if_pos h
theorem of_no {b c x y : Int} (h : ¬ (0 ≤ x ∧ x < b ∧ 0 ≤ y ∧ y < c)) : of b c x y = (0, 1) := if_neg h
theorem of_zero {b c x y : Int} (h : decide (([b, c] : List Int) = [0, 0]) = true) : of b c x y = (0, 1) := by
  have := of_decide_eq_true h
  simp only [List.cons.injEq, and_true] at this
  exact of_no (by omega)
def passes (l t : Int) : Bool := decide (0 ≤ l) && decide (l < t)
theorem passes_iff {l t : Int} : passes l t = true ↔ (0 ≤ l ∧ l < t) := by simp [passes]
theorem split_yes {b c l : Int} (h : passes l (b * c) = true) : split b c l = (l / c, l % c, 0) := split_in (passes_iff.1 h).1 (passes_iff.1 h).2
theorem split_no {b c l : Int} (h : passes l (b * c) = false) : split b c l = (0, 0, 1) := split_out fun hc => by rw [passes_iff.2 hc] at h; cases h
theorem Ok.at {b c l : Int} (h : Ok b c) (hp : passes l (b * c) = true) : 0 ≤ l ∧ l ≤ 128 ∧ 1 ≤ c := by
  have h1 := passes_iff.1 hp
  rcases h with h | ⟨rfl, rfl⟩
  · have := h.mul; have := h.c0; omega
  · omega
theorem Ok.parts {b c : Int} (h : Ok b c) (l : Int) : 0 ≤ (split b c l).1 ∧ (split b c l).1 ≤ 99 ∧ 0 ≤ (split b c l).2.1 ∧ (split b c l).2.1 ≤ 99 := by
  by_cases hp : 0 ≤ l ∧ l < b * c
  · rw [split_in hp.1 hp.2]
    rcases h with h | ⟨rfl, rfl⟩
    · have h1 := Int.emod_nonneg l (show c ≠ 0 by have := h.c0; omega)
      have h2 := Int.emod_lt_of_pos l (show 0 < c by have := h.c0; omega)
      have h3 := Int.ediv_lt_of_lt_mul (show 0 < c by have := h.c0; omega) hp.2
      have h4 := Int.ediv_nonneg hp.1 (show 0 ≤ c by have := h.c0; omega)
      have h5 := h.b1
      have h6 := h.c1
      simp only
      omega
    · omega
  · rw [split_out hp]; simp
theorem itoa_len {n : Int} (h0 : 0 ≤ n) (h1 : n ≤ 99) : (Lib.itoa n).length ≤ 2 := by
  have h : Lib.itoa n = Lib.decDigits n.toNat := by unfold Lib.itoa; rw [if_neg (by omega)]
  rw [h]
  by_cases h2 : n.toNat < 10
  · rw [Lib.decDigits_one h2]; simp
  · rw [Lib.decDigits_two h2 (by omega)]; simp
def text (b c l : Int) : List UInt8 × Int := if (split b c l).2.2 = 0 then (Lib.itoa (split b c l).1 ++ [46] ++ Lib.itoa (split b c l).2.1, 0) else ([], (split b c l).2.2)
theorem text_yes {b c l : Int} (h : (split b c l).2.2 = 0) : text b c l = (Lib.itoa (split b c l).1 ++ [46] ++ Lib.itoa (split b c l).2.1, 0) := if_pos h
theorem text_no {b c l : Int} (h : ¬ (split b c l).2.2 = 0) : text b c l = ([], (split b c l).2.2) := if_neg h
theorem cut_len (s sep : List UInt8) : (Lib.cut s sep).1.length ≤ s.length ∧ (Lib.cut s sep).2.1.length ≤ s.length := by
  unfold Lib.cut
  split
  · simp only [List.length_take, List.length_drop]; omega
  · simp
def parse (b c : Int) (s : List UInt8) : Int × Int :=
  if (Lib.cut s [46]).2.2 = false then (0, 2)
  else if (Dc.parse (Lib.cut s [46]).1).2 ≠ 0 then (0, (Dc.parse (Lib.cut s [46]).1).2)
  else if (Dc.parse (Lib.cut s [46]).2.1).2 ≠ 0 then (0, (Dc.parse (Lib.cut s [46]).2.1).2)
  else of b c (Dc.parse (Lib.cut s [46]).1).1 (Dc.parse (Lib.cut s [46]).2.1).1
section
variable {b c : Int} {s : List UInt8}
theorem parse_nocut (h : (Lib.cut s [46]).2.2 = false) : parse b c s = (0, 2) := if_pos h
theorem parse_first (h : (Lib.cut s [46]).2.2 = true) (h1 : (Dc.parse (Lib.cut s [46]).1).2 ≠ 0) : parse b c s = (0, (Dc.parse (Lib.cut s [46]).1).2) := by
  rw [parse, if_neg (by simp [h]), if_pos h1]
theorem parse_second (h : (Lib.cut s [46]).2.2 = true) (h1 : (Dc.parse (Lib.cut s [46]).1).2 = 0) (h2 : (Dc.parse (Lib.cut s [46]).2.1).2 ≠ 0) : parse b c s = (0, (Dc.parse (Lib.cut s [46]).2.1).2) := by
  rw [parse, if_neg (by simp [h]), if_neg (by simp [h1]), if_pos h2]
theorem parse_all (h : (Lib.cut s [46]).2.2 = true) (h1 : (Dc.parse (Lib.cut s [46]).1).2 = 0) (h2 : (Dc.parse (Lib.cut s [46]).2.1).2 = 0) : parse b c s = of b c (Dc.parse (Lib.cut s [46]).1).1 (Dc.parse (Lib.cut s [46]).2.1).1 := by
  rw [parse, if_neg (by simp [h]), if_neg (by simp [h1]), if_neg (by simp [h2])]
end
theorem split_hit {b c l x y : Int} (hc : 1 ≤ c) (hx : 0 ≤ x) (hxb : x < b) (hy : 0 ≤ y) (hyc : y < c) (hl : l = x * c + y) : split b c l = (x, y, 0) := by rw [hl, split_row hc hx hxb hy hyc]
theorem row_next {c x y k : Int} (hk : k = x * c + y) (hy : y = c) : k = (x + 1) * c := by rw [Int.add_mul, Int.one_mul, hk, hy]
theorem of_next {b c x y k : Int} (hk0 : 0 ≤ k) (hk : k < b * c) (hno : ∀ j, 0 ≤ j → j < k → ¬ (j / c = x ∧ j % c = y)) (h : ¬ ((split b c k).1 = x ∧ (split b c k).2.1 = y)) : ∀ j, 0 ≤ j → j < k + 1 → ¬ (j / c = x ∧ j % c = y) := fun j h0 h1 => by
  by_cases he : j = k
  · subst he
    rw [split_in hk0 hk] at h
    exact h
  · exact hno j h0 (by omega)
theorem of_hit {b c x y k : Int} (hc : 1 ≤ c) (hk0 : 0 ≤ k) (hk : k < b * c) (h1 : (split b c k).1 = x) (h2 : (split b c k).2.1 = y) : of b c x y = (k, 0) := by
  rw [split_in hk0 hk] at h1 h2
  rw [← h1, ← h2]
  exact of_at hc hk0 hk
theorem new_right {b c : Int} (h : (new b c).2.2 = 0) : right b c = true := by
  cases hr : right b c with
  | true => rfl
  | false => rw [new_none hr] at h; simp at h
theorem code_at {b c l : Int} (hg : Ok b c) (h : (split b c l).2.2 = 0) : 0 ≤ l ∧ l < b * c ∧ 1 ≤ c := by
  have h1 := split_code.1 h
  rcases hg with hg | ⟨rfl, rfl⟩
  · exact ⟨h1.1, h1.2, hg.c0⟩
  · omega
theorem back_of {b c l : Int} (hg : Ok b c) (h : (split b c l).2.2 = 0) : of b c (split b c l).1 (split b c l).2.1 = (l, 0) := by
  obtain ⟨h0, h1, hc⟩ := code_at hg h
  rw [split_in h0 h1]
  exact of_at hc h0 h1
theorem lex2 {b c x y : Int} (hg : Ok b c) (hx : (split b c x).2.2 = 0) (hy : (split b c y).2.2 = 0) :
    x < y ↔ ((split b c x).1 < (split b c y).1 ∨ (split b c x).1 = (split b c y).1 ∧ (split b c x).2.1 < (split b c y).2.1) := by
  obtain ⟨h0, h1, hc⟩ := code_at hg hx
  obtain ⟨h2, h3, _⟩ := code_at hg hy
  rw [split_in h0 h1, split_in h2 h3]
  exact lex hc
theorem itoa_one {n : Int} (h0 : 0 ≤ n) (h1 : n ≤ 9) : Lib.itoa n = [UInt8.ofNat (48 + n.toNat)] := by
  have h : Lib.itoa n = Lib.decDigits n.toNat := by unfold Lib.itoa; rw [if_neg (by omega)]
  rw [h, Lib.decDigits_one (by omega)]
theorem aw_text : text 4 8 19 = ([50, 46, 51], 0) := by
  have h : split 4 8 19 = (2, 3, 0) := by decide
  rw [text_yes (by rw [h]), h, itoa_one (by decide) (by decide), itoa_one (by decide) (by decide)]
  rfl
theorem aw_parse : parse 4 8 [50, 46, 51] = (19, 0) := by
  have hc : Lib.cut [50, 46, 51] [46] = ([50], [51], true) := by decide
  have h2 : Dc.parse [50] = (2, 0) := Dc.parse_ok (by rfl) (by rw [itoa_one (by decide) (by decide)]; rfl)
  have h3 : Dc.parse [51] = (3, 0) := Dc.parse_ok (by rfl) (by rw [itoa_one (by decide) (by decide)]; rfl)
  rw [parse_all (by rw [hc]) (by rw [hc]; simp only [h2]) (by rw [hc]; simp only [h3]), hc]
  simp only [h2, h3]
  decide
end Go.LK.Lv
