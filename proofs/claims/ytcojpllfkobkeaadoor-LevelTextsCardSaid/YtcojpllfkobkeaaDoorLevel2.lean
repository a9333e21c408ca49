/-
  The plain law of levels' texts, the document's way.
-/
import Derived.Test.YtcojpllfkobkeaaDoorLevel1
import Derived.Test.YtcojpllfkobkeaaDoorDec1
namespace Go.LK.Lv
open Go Go.LK

theorem occ_dot {s : List UInt8} {i : Nat} : Lib.occAt s [46] i = true ↔ s[i]? = some 46 := by
  unfold Lib.occAt
  rw [List.isPrefixOf_iff_prefix]
  constructor
  · rintro ⟨t, ht⟩
    have h := congrArg (·[0]?) ht
    simp only [List.cons_append, List.getElem?_cons_zero, List.getElem?_drop, Nat.add_zero] at h
    exact h.symm
  · intro h
    obtain ⟨hlt, he⟩ := List.getElem?_eq_some_iff.1 h
    refine ⟨s.drop (i + 1), ?_⟩
    rw [List.drop_eq_getElem_cons hlt, he]
    rfl
def noDot (s : List UInt8) (i : Nat) : Prop := ∀ j c, j < i → s[j]? = some c → c.toNat ≠ 46
theorem noDot_zero {s : List UInt8} : noDot s 0 := fun j _ h => absurd h (Nat.not_lt_zero j)
theorem noDot_next {s : List UInt8} {i : Nat} {b : UInt8} (h : noDot s i) (hb : s[i]? = some b) (h46 : ¬ (b.toNat : Int) = 46) : noDot s (i + 1) := fun j c hj hc => by
  by_cases he : j = i
  · subst he; rw [hb] at hc; cases hc; omega
  · exact h j c (by omega) hc
theorem noOcc_of {s : List UInt8} {i : Nat} (h : noDot s i) : Lib.NoOcc s [46] i := fun j hj => by
  cases ho : Lib.occAt s [46] j with
  | false => rfl
  | true => exact absurd rfl (h j 46 hj (occ_dot.1 ho))
theorem cut_dot {s : List UInt8} {i : Nat} {b : UInt8} (h : noDot s i) (hb : s[i]? = some b) (h46 : (b.toNat : Int) = 46) : Lib.cut s [46] = (s.take i, s.drop (i + 1), true) := by
  have hlt := (List.getElem?_eq_some_iff.1 hb).1
  have hb' : b = 46 := by
    apply UInt8.toNat_inj.1
    show b.toNat = 46
    omega
  subst hb'
  have hi := Lib.index_hit (noOcc_of h) (by omega) (occ_dot.2 hb)
  unfold Lib.cut
  rw [hi, if_pos (by omega)]
  simp
theorem cut_none {s : List UInt8} (h : noDot s s.length) : Lib.cut s [46] = (s, [], false) := by
  have hi := Lib.index_past (sub := [46]) (by simp) (noOcc_of h) (by simp)
  unfold Lib.cut
  rw [hi, if_neg (by omega)]
theorem code_two (s : List UInt8) : (Dc.parse s).2 = 0 ∨ (Dc.parse s).2 = 2 := by
  rcases Dc.parse_cases s with ⟨n, _, _, h⟩ | ⟨h, _⟩ <;> rw [h] <;> simp
section
variable {b c : Int} {s : List UInt8} {i : Nat} {x : UInt8}
theorem parse_dots (h : noDot s s.length) : parse b c s = (0, 2) := parse_nocut (by rw [cut_none h])
theorem parse_bad (h : noDot s i) (hb : s[i]? = some x) (h46 : (x.toNat : Int) = 46) (hc : (Dc.parse (s.take i)).2 ≠ 0 ∨ (Dc.parse (s.drop (i + 1))).2 ≠ 0) : parse b c s = (0, 2) := by
  have hcut := cut_dot h hb h46
  have h1 := code_two (s.take i)
  have h2 := code_two (s.drop (i + 1))
  by_cases h0 : (Dc.parse (s.take i)).2 = 0
  · rw [parse_second (by rw [hcut]) (by rw [hcut]; exact h0) (by rw [hcut]; show (Dc.parse (s.drop (i + 1))).2 ≠ 0; omega), hcut]
    show ((0 : Int), (Dc.parse (s.drop (i + 1))).2) = (0, 2)
    rw [show (Dc.parse (s.drop (i + 1))).2 = 2 from by omega]
  · rw [parse_first (by rw [hcut]) (by rw [hcut]; exact h0), hcut]
    show ((0 : Int), (Dc.parse (s.take i)).2) = (0, 2)
    rw [show (Dc.parse (s.take i)).2 = 2 from by omega]
theorem parse_good (h : noDot s i) (hb : s[i]? = some x) (h46 : (x.toNat : Int) = 46) (h1 : (Dc.parse (s.take i)).2 = 0) (h2 : (Dc.parse (s.drop (i + 1))).2 = 0) : parse b c s = of b c (Dc.parse (s.take i)).1 (Dc.parse (s.drop (i + 1))).1 := by
  have hcut := cut_dot h hb h46
  rw [parse_all (by rw [hcut]) (by rw [hcut]; exact h1) (by rw [hcut]; exact h2), hcut]
end
end Go.LK.Lv
