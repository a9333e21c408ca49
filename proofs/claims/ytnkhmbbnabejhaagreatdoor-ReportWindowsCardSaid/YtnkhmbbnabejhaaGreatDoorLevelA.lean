/-
  Several texts in one: Level0, Level1, Level2.
-/
import Derived.Test.YtnkhmbbnabejhaaGreatDoorLk16
import Derived.Test.YtnkhmbbnabejhaaGreatDoorDec0
import Derived.Test.YtnkhmbbnabejhaaGreatDoorDecA
namespace Go.LK.Lv
open Go Go.LK

def split (b c l : Int) : Int × Int × Int := if 0 ≤ l ∧ l < b * c then (l / c, l % c, 0) else (0, 0, 1)
def of (b c x y : Int) : Int × Int := if 0 ≤ x ∧ x < b ∧ 0 ≤ y ∧ y < c then (x * c + y, 0) else (0, 1)
def right (b c : Int) : Bool := decide (1 ≤ b) && decide (b ≤ 8) && decide (1 ≤ c) && decide (c ≤ 16)
structure Grid (b c : Int) : Prop where
  b0 : 1 ≤ b
  b1 : b ≤ 8
  c0 : 1 ≤ c
  c1 : c ≤ 16
theorem right_iff {b c : Int} : right b c = true ↔ Grid b c := by
  simp only [right, Bool.and_eq_true, decide_eq_true_eq]
  exact ⟨fun ⟨⟨⟨h1, h2⟩, h3⟩, h4⟩ => ⟨h1, h2, h3, h4⟩, fun h => ⟨⟨⟨h.b0, h.b1⟩, h.c0⟩, h.c1⟩⟩
theorem Grid.mul {b c : Int} (h : Grid b c) : 1 ≤ b * c ∧ b * c ≤ 128 := by
  obtain ⟨h1, h2, h3, h4⟩ := h
  constructor
  · have := Int.mul_le_mul h1 h3 (by omega) (by omega)
    omega
  · have := Int.mul_le_mul h2 h4 (by omega) (by omega)
    omega

theorem split_in {b c l : Int} (h0 : 0 ≤ l) (h1 : l < b * c) : split b c l = (l / c, l % c, 0) := if_pos ⟨h0, h1⟩
theorem split_out {b c l : Int} (h : ¬ (0 ≤ l ∧ l < b * c)) : split b c l = (0, 0, 1) := if_neg h
theorem row_at {b c x y : Int} (hc : 1 ≤ c) (hx : 0 ≤ x) (hxb : x < b) (hy : 0 ≤ y) (hyc : y < c) : 0 ≤ x * c + y ∧ x * c + y < b * c := by
  have h1 : 0 ≤ x * c := Int.mul_nonneg hx (by omega)
  have h2 : (x + 1) * c ≤ b * c := Int.mul_le_mul_of_nonneg_right (by omega) (by omega)
  rw [Int.add_mul, Int.one_mul] at h2
  omega
theorem row_div {c x y : Int} (hc : 1 ≤ c) (hy : 0 ≤ y) (hyc : y < c) : (x * c + y) / c = x ∧ (x * c + y) % c = y := by
  constructor
  · rw [Int.add_comm, Int.add_mul_ediv_right _ _ (by omega), Int.ediv_eq_zero_of_lt hy hyc, Int.zero_add]
  · rw [Int.add_comm, Int.add_mul_emod_self_right, Int.emod_eq_of_lt hy hyc]
theorem split_row {b c x y : Int} (hc : 1 ≤ c) (hx : 0 ≤ x) (hxb : x < b) (hy : 0 ≤ y) (hyc : y < c) : split b c (x * c + y) = (x, y, 0) := by
  obtain ⟨h0, h1⟩ := row_at hc hx hxb hy hyc
  obtain ⟨h2, h3⟩ := row_div (x := x) hc hy hyc
  rw [split_in h0 h1, h2, h3]
end Go.LK.Lv

namespace Go.LK.Lv
open Go Go.LK

def new (b c : Int) : Int × Int × Int := if right b c = true then (b, c, 0) else (0, 0, 1)
def Ok (b c : Int) : Prop := Grid b c ∨ (b = 0 ∧ c = 0)
theorem new_yes {b c : Int} (h : 1 ≤ b ∧ b ≤ 8 ∧ 1 ≤ c ∧ c ≤ 16) : new b c = (b, c, 0) := if_pos (right_iff.2 ⟨h.1, h.2.1, h.2.2.1, h.2.2.2⟩)
theorem new_no {b c : Int} (h : ¬ (1 ≤ b ∧ b ≤ 8 ∧ 1 ≤ c ∧ c ≤ 16)) : new b c = (0, 0, 1) := if_neg fun hc => by
  obtain ⟨h1, h2, h3, h4⟩ := right_iff.1 hc
  exact h ⟨h1, h2, h3, h4⟩
theorem new_grid {b c : Int} (h : right b c = true) : new b c = (b, c, 0) := if_pos h
theorem new_none {b c : Int} (h : right b c = false) : new b c = (0, 0, 1) := if_neg (by simp [h])
theorem new_ok {b c : Int} : Ok (new b c).1 (new b c).2.1 := by
  by_cases h : right b c = true
  · rw [new_grid h]; exact .inl (right_iff.1 h)
  · rw [new_none (by simpa using h)]; exact .inr ⟨rfl, rfl⟩
theorem Ok.mul {b c : Int} (h : Ok b c) : 0 ≤ b * c ∧ b * c ≤ 128 := by
  rcases h with h | ⟨rfl, rfl⟩
  · have := h.mul; omega
  · simp
theorem Ok.row {b c x : Int} (h : Ok b c) (h0 : 0 ≤ x) (h1 : x < b) (y : Int) (h2 : 0 ≤ y) (h3 : y < c) : 0 ≤ x * c ∧ x * c + y < 128 := by
  rcases h with h | ⟨rfl, rfl⟩
  · have h4 := row_at h.c0 h0 h1 h2 h3
    have h5 := h.mul
    have h6 : 0 ≤ x * c := Int.mul_nonneg h0 (by omega)
    omega
  · omega
theorem of_yes {b c x y : Int} (h : 0 ≤ x ∧ x < b ∧ 0 ≤ y ∧ y < c) : of b c x y = (x * c + y, 0) := if_pos h
theorem of_no {b c x y : Int} (h : ¬ (0 ≤ x ∧ x < b ∧ 0 ≤ y ∧ y < c)) : of b c x y = (0, 1) := if_neg h
def passes (l t : Int) : Bool := decide (0 ≤ l) && decide (l < t)
theorem passes_iff {l t : Int} : passes l t = true ↔ (0 ≤ l ∧ l < t) := by simp [passes]
theorem split_yes {b c l : Int} (h : passes l (b * c) = true) : split b c l = (l / c, l % c, 0) := split_in (passes_iff.1 h).1 (passes_iff.1 h).2
theorem split_no {b c l : Int} (h : passes l (b * c) = false) : split b c l = (0, 0, 1) := split_out fun hc => by rw [passes_iff.2 hc] at h; cases h
theorem Ok.at {b c l : Int} (h : Ok b c) (hp : passes l (b * c) = true) : 0 ≤ l ∧ l ≤ 128 ∧ 1 ≤ c := by
  have h1 := passes_iff.1 hp
  rcases h with h | ⟨rfl, rfl⟩
  · have := h.mul; have := h.c0; omega
  · omega
theorem Ok.parts {b c : Int} (h : Ok b c) (l : Int) : 0 ≤ (split b c l).1 ∧ (split b c l).1 ≤ 99 ∧ 0 ≤ (split b c l).2.1 ∧ (split b c l).2.1 ≤ 99 := by
  by_cases hp : 0 ≤ l ∧ l < b * c
  · rw [split_in hp.1 hp.2]
    rcases h with h | ⟨rfl, rfl⟩
    · have h1 := Int.emod_nonneg l (show c ≠ 0 by have := h.c0; omega)
      have h2 := Int.emod_lt_of_pos l (show 0 < c by have := h.c0; omega)
      have h3 := Int.ediv_lt_of_lt_mul (show 0 < c by have := h.c0; omega) hp.2
      have h4 := Int.ediv_nonneg hp.1 (show 0 ≤ c by have := h.c0; omega)
      have h5 := h.b1
      have h6 := h.c1
      simp only
      omega
    · omega
  · rw [split_out hp]; simp
theorem itoa_len {n : Int} (h0 : 0 ≤ n) (h1 : n ≤ 99) : (Lib.itoa n).length ≤ 2 := by
  have h : Lib.itoa n = Lib.decDigits n.toNat := by unfold Lib.itoa; rw [if_neg (by omega)]
  rw [h]
  by_cases h2 : n.toNat < 10
  · rw [Lib.decDigits_one h2]; simp
  · rw [Lib.decDigits_two h2 (by omega)]; simp
def text (b c l : Int) : List UInt8 × Int := if (split b c l).2.2 = 0 then (Lib.itoa (split b c l).1 ++ [46] ++ Lib.itoa (split b c l).2.1, 0) else ([], (split b c l).2.2)
theorem text_yes {b c l : Int} (h : (split b c l).2.2 = 0) : text b c l = (Lib.itoa (split b c l).1 ++ [46] ++ Lib.itoa (split b c l).2.1, 0) := if_pos h
theorem text_no {b c l : Int} (h : ¬ (split b c l).2.2 = 0) : text b c l = ([], (split b c l).2.2) := if_neg h
theorem cut_len (s sep : List UInt8) : (Lib.cut s sep).1.length ≤ s.length ∧ (Lib.cut s sep).2.1.length ≤ s.length := by
  unfold Lib.cut
  split
  · simp only [List.length_take, List.length_drop]; omega
  · simp
def parse (b c : Int) (s : List UInt8) : Int × Int :=
  if (Lib.cut s [46]).2.2 = false then (0, 2)
  else if (Dc.parse (Lib.cut s [46]).1).2 ≠ 0 then (0, (Dc.parse (Lib.cut s [46]).1).2)
  else if (Dc.parse (Lib.cut s [46]).2.1).2 ≠ 0 then (0, (Dc.parse (Lib.cut s [46]).2.1).2)
  else of b c (Dc.parse (Lib.cut s [46]).1).1 (Dc.parse (Lib.cut s [46]).2.1).1
section
variable {b c : Int} {s : List UInt8}
theorem parse_first (h : (Lib.cut s [46]).2.2 = true) (h1 : (Dc.parse (Lib.cut s [46]).1).2 ≠ 0) : parse b c s = (0, (Dc.parse (Lib.cut s [46]).1).2) := by
  rw [parse, if_neg (by simp [h]), if_pos h1]
theorem parse_second (h : (Lib.cut s [46]).2.2 = true) (h1 : (Dc.parse (Lib.cut s [46]).1).2 = 0) (h2 : (Dc.parse (Lib.cut s [46]).2.1).2 ≠ 0) : parse b c s = (0, (Dc.parse (Lib.cut s [46]).2.1).2) := by
  rw [parse, if_neg (by simp [h]), if_neg (by simp [h1]), if_pos h2]
theorem parse_all (h : (Lib.cut s [46]).2.2 = true) (h1 : (Dc.parse (Lib.cut s [46]).1).2 = 0) (h2 : (Dc.parse (Lib.cut s [46]).2.1).2 = 0) : parse b c s = of b c (Dc.parse (Lib.cut s [46]).1).1 (Dc.parse (Lib.cut s [46]).2.1).1 := by
  rw [parse, if_neg (by simp [h]), if_neg (by simp [h1]), if_neg (by simp [h2])]
end
theorem split_hit {b c l x y : Int} (hc : 1 ≤ c) (hx : 0 ≤ x) (hxb : x < b) (hy : 0 ≤ y) (hyc : y < c) (hl : l = x * c + y) : split b c l = (x, y, 0) := by rw [hl, split_row hc hx hxb hy hyc]
theorem row_next {c x y k : Int} (hk : k = x * c + y) (hy : y = c) : k = (x + 1) * c := by rw [Int.add_mul, Int.one_mul, hk, hy]
theorem new_right {b c : Int} (h : (new b c).2.2 = 0) : right b c = true := by
  cases hr : right b c with
  | true => rfl
  | false => rw [new_none hr] at h; simp at h
end Go.LK.Lv

namespace Go.LK.Lv
open Go Go.LK

theorem occ_dot {s : List UInt8} {i : Nat} : Lib.occAt s [46] i = true ↔ s[i]? = some 46 := by
  unfold Lib.occAt
  rw [List.isPrefixOf_iff_prefix]
  constructor
  · rintro ⟨t, ht⟩
    have h := congrArg (·[0]?) ht
    simp only [List.cons_append, List.getElem?_cons_zero, List.getElem?_drop, Nat.add_zero] at h
    exact h.symm
  · intro h
    obtain ⟨hlt, he⟩ := List.getElem?_eq_some_iff.1 h
    refine ⟨s.drop (i + 1), ?_⟩
    rw [List.drop_eq_getElem_cons hlt, he]
    rfl
def noDot (s : List UInt8) (i : Nat) : Prop := ∀ j c, j < i → s[j]? = some c → c.toNat ≠ 46
theorem noOcc_of {s : List UInt8} {i : Nat} (h : noDot s i) : Lib.NoOcc s [46] i := fun j hj => by
  cases ho : Lib.occAt s [46] j with
  | false => rfl
  | true => exact absurd rfl (h j 46 hj (occ_dot.1 ho))
theorem cut_dot {s : List UInt8} {i : Nat} {b : UInt8} (h : noDot s i) (hb : s[i]? = some b) (h46 : (b.toNat : Int) = 46) : Lib.cut s [46] = (s.take i, s.drop (i + 1), true) := by
  have hlt := (List.getElem?_eq_some_iff.1 hb).1
  have hb' : b = 46 := by
    apply UInt8.toNat_inj.1
    show b.toNat = 46
    omega
  subst hb'
  have hi := Lib.index_hit (noOcc_of h) (by omega) (occ_dot.2 hb)
  unfold Lib.cut
  rw [hi, if_pos (by omega)]
  simp
theorem code_two (s : List UInt8) : (Dc.parse s).2 = 0 ∨ (Dc.parse s).2 = 2 := by
  rcases Dc.parse_cases s with ⟨n, _, _, h⟩ | ⟨h, _⟩ <;> rw [h] <;> simp
section
variable {b c : Int} {s : List UInt8} {i : Nat} {x : UInt8}
theorem parse_bad (h : noDot s i) (hb : s[i]? = some x) (h46 : (x.toNat : Int) = 46) (hc : (Dc.parse (s.take i)).2 ≠ 0 ∨ (Dc.parse (s.drop (i + 1))).2 ≠ 0) : parse b c s = (0, 2) := by
  have hcut := cut_dot h hb h46
  have h1 := code_two (s.take i)
  have h2 := code_two (s.drop (i + 1))
  by_cases h0 : (Dc.parse (s.take i)).2 = 0
  · rw [parse_second (by rw [hcut]) (by rw [hcut]; exact h0) (by rw [hcut]; show (Dc.parse (s.drop (i + 1))).2 ≠ 0; omega), hcut]
    show ((0 : Int), (Dc.parse (s.drop (i + 1))).2) = (0, 2)
    rw [show (Dc.parse (s.drop (i + 1))).2 = 2 from by omega]
  · rw [parse_first (by rw [hcut]) (by rw [hcut]; exact h0), hcut]
    show ((0 : Int), (Dc.parse (s.take i)).2) = (0, 2)
    rw [show (Dc.parse (s.take i)).2 = 2 from by omega]
end
end Go.LK.Lv
