/-
  The plain law of numbers' texts in a row: joined, and parted.
-/
import Derived.Test.YtopemccmejgbpaaDoorDec2
import Derived.Lib.Join
namespace Go.LK.Dc
open Go Go.LK

/-! ### Joined -/
theorem join_snoc : ∀ (xs : List (List UInt8)) (x : List UInt8), Lib.join (xs ++ [x]) [44] = if xs = [] then x else Lib.join xs [44] ++ [44] ++ x
  | [], x => by rw [List.nil_append, Lib.join_one, if_pos rfl]
  | y :: ys, x => by
    rw [if_neg (by simp), List.cons_append, Lib.join_cons, Lib.join_cons]
    unfold Lib.joinTail
    rw [List.map_append, List.flatten_append]
    simp
def joinU (l : List Int) (k : Nat) : List UInt8 := Lib.join ((l.take k).map Lib.itoa) [44]
theorem map_take_next {l : List Int} {k : Nat} {x : Int} (hx : l[k]? = some x) : (l.take (k + 1)).map Lib.itoa = (l.take k).map Lib.itoa ++ [Lib.itoa x] := by
  obtain ⟨hlt, rfl⟩ := List.getElem?_eq_some_iff.1 hx
  rw [List.take_succ_eq_append_getElem hlt, List.map_append]; rfl
theorem joinU_zero {l : List Int} : joinU l 0 = [] := rfl
theorem joinU_next {l : List Int} {k : Nat} {x : Int} (hx : l[k]? = some x) : joinU l (k + 1) = if k = 0 then Lib.itoa x else joinU l k ++ [44] ++ Lib.itoa x := by
  obtain ⟨hlt, rfl⟩ := List.getElem?_eq_some_iff.1 hx
  unfold joinU
  rw [List.take_succ_eq_append_getElem hlt, List.map_append, List.map_cons, List.map_nil, join_snoc]
  by_cases h : k = 0
  · subst h; simp
  · rw [if_neg (fun he => by
      have h2 := congrArg List.length he
      rw [List.length_map, List.length_take, List.length_nil] at h2
      omega), if_neg h]
def I64s (l : List Int) : Prop := ∀ x ∈ l, I64 x
theorem joinU_len {l : List Int} (h : I64s l) : ∀ (k : Nat), (joinU l k).length ≤ 22 * k
  | 0 => by simp [joinU_zero]
  | k + 1 => by
    have ih := joinU_len h k
    cases hx : l[k]? with
    | none =>
      have h1 : l.take (k + 1) = l.take k := by
        have := List.getElem?_eq_none_iff.1 hx
        rw [List.take_of_length_le (by omega), List.take_of_length_le this]
      unfold joinU at ih ⊢
      rw [h1]
      omega
    | some x =>
      rw [joinU_next hx]
      have hi := h x (List.mem_of_getElem? hx)
      have hl := Lib.itoa_length_le x hi.1 hi.2
      split
      · omega
      · simp only [List.length_append, List.length_cons, List.length_nil]; omega
theorem itoa_le {n : Int} (h : I64 n) : (Lib.itoa n).length ≤ 21 := Lib.itoa_length_le n h.1 h.2
def listText (l : List Int) : List UInt8 := if l.length = 0 then [45] else Lib.join (l.map Lib.itoa) [44]
theorem lt_nil {l : List Int} (h : l.length = 0) : listText l = [45] := if_pos h
theorem lt_all {l : List Int} (h : ¬ l.length = 0) : listText l = Lib.join (l.map Lib.itoa) [44] := if_neg h
theorem lt_joinU {l : List Int} (h : ¬ l.length = 0) : listText l = joinU l l.length := by
  rw [lt_all h, joinU, List.take_length]

/-! ### Parted -/
def noSep (s : List UInt8) (a b : Nat) : Prop := ∀ j c, a ≤ j → j < b → s[j]? = some c → c.toNat ≠ 44
theorem occ_sep {s : List UInt8} {i : Nat} : Lib.occAt s [44] i = true ↔ s[i]? = some 44 := by
  unfold Lib.occAt
  rw [List.isPrefixOf_iff_prefix]
  constructor
  · rintro ⟨t, ht⟩
    have h := congrArg (·[0]?) ht
    simp only [List.cons_append, List.getElem?_cons_zero, List.getElem?_drop, Nat.add_zero] at h
    exact h.symm
  · intro h
    obtain ⟨hlt, he⟩ := List.getElem?_eq_some_iff.1 h
    refine ⟨s.drop (i + 1), ?_⟩
    rw [List.drop_eq_getElem_cons hlt, he]
    rfl
theorem noOcc_sep {s : List UInt8} {i : Nat} (h : noSep s 0 i) : Lib.NoOcc s [44] i := fun j hj => by
  cases ho : Lib.occAt s [44] j with
  | false => rfl
  | true => exact absurd rfl (h j 44 (Nat.zero_le _) hj (occ_sep.1 ho))
theorem split_miss {t : List UInt8} (h : noSep t 0 t.length) : Lib.split t [44] = [t] := by
  have hi := Lib.index_past (sub := [44]) (by simp) (noOcc_sep h) (by simp)
  unfold Lib.split
  rw [Lib.count_miss hi]
  rfl
theorem split_hit {t : List UInt8} {j : Nat} (h : noSep t 0 j) (hj : t[j]? = some 44) : Lib.split t [44] = t.take j :: Lib.split (t.drop (j + 1)) [44] := by
  have hlt := (List.getElem?_eq_some_iff.1 hj).1
  have hi := Lib.index_hit (noOcc_sep h) (by omega) (occ_sep.2 hj)
  unfold Lib.split
  rw [Lib.count_hit (by decide) hi, Nat.add_comm 1, Lib.splitK, if_neg (by rw [hi]; simp), hi]
  rfl
/-- What has been parted so far, and what is left. -/
theorem parts_cut {s : List UInt8} {fr i : Nat} {out : List (List UInt8)} {c : UInt8} (hf : fr ≤ i) (hno : noSep s fr i) (hc : s[i]? = some c) (h44 : (c.toNat : Int) = 44) (h : out ++ Lib.split (s.drop fr) [44] = Lib.split s [44]) :
    (out ++ [(s.drop fr).take (i - fr)]) ++ Lib.split (s.drop (i + 1)) [44] = Lib.split s [44] := by
  have hc' : c = 44 := by
    apply UInt8.toNat_inj.1
    show c.toNat = 44
    omega
  subst hc'
  have h1 : noSep (s.drop fr) 0 (i - fr) := fun j x _ hj hx => hno (fr + j) x (by omega) (by omega) (by rw [List.getElem?_drop] at hx; exact hx)
  have h2 : (s.drop fr)[i - fr]? = some 44 := by rw [List.getElem?_drop, show fr + (i - fr) = i from by omega]; exact hc
  rw [split_hit h1 h2, List.drop_drop, show fr + (i - fr + 1) = i + 1 from by omega] at h
  rw [← h, List.append_assoc]
  rfl
theorem parts_end {s : List UInt8} {fr : Nat} {out : List (List UInt8)} (hno : noSep s fr s.length) (h : out ++ Lib.split (s.drop fr) [44] = Lib.split s [44]) : out ++ [(s.drop fr).take (s.length - fr)] = Lib.split s [44] := by
  have h1 : noSep (s.drop fr) 0 (s.drop fr).length := fun j x _ hj hx => hno (fr + j) x (by omega) (by rw [List.length_drop] at hj; omega) (by rw [List.getElem?_drop] at hx; exact hx)
  rw [split_miss h1] at h
  rw [List.take_of_length_le (by rw [List.length_drop]; omega)]
  exact h
theorem noSep_next {s : List UInt8} {fr i : Nat} {c : UInt8} (h : noSep s fr i) (hc : s[i]? = some c) (hne : ¬ (c.toNat : Int) = 44) : noSep s fr (i + 1) := fun j x h1 h2 hx => by
  by_cases he : j = i
  · subst he; rw [hc] at hx; cases hx; omega
  · exact h j x h1 (by omega) hx
theorem noSep_nil {s : List UInt8} {i : Nat} : noSep s i i := fun j _ h1 h2 => by omega
def PInv (s : List UInt8) (fr i : Nat) (out : List (List UInt8)) : Prop :=
  (i ≤ s.length ∧ fr ≤ i ∧ noSep s fr i ∧ out ++ Lib.split (s.drop fr) [44] = Lib.split s [44]) ∨ (i = s.length + 1 ∧ out = Lib.split s [44])
theorem pinv_zero {s : List UInt8} : PInv s 0 0 [] := .inl ⟨Nat.zero_le _, Nat.le_refl _, noSep_nil, rfl⟩
theorem pinv_go {s : List UInt8} {fr i : Nat} {out : List (List UInt8)} (h : PInv s fr i out) (hi : i ≤ s.length) : fr ≤ i ∧ noSep s fr i ∧ out ++ Lib.split (s.drop fr) [44] = Lib.split s [44] := by
  rcases h with h | h
  · exact h.2
  · omega
theorem pinv_cut {s : List UInt8} {fr i : Nat} {out : List (List UInt8)} {c : UInt8} (h : PInv s fr i out) (hc : s[i]? = some c) (h44 : (c.toNat : Int) = 44) : PInv s (i + 1) (i + 1) (out ++ [(s.drop fr).take (i - fr)]) := by
  have hlt := (List.getElem?_eq_some_iff.1 hc).1
  obtain ⟨h1, h2, h3⟩ := pinv_go h (by omega)
  exact .inl ⟨by omega, Nat.le_refl _, noSep_nil, parts_cut h1 h2 hc h44 h3⟩
theorem pinv_next {s : List UInt8} {fr i : Nat} {out : List (List UInt8)} {c : UInt8} (h : PInv s fr i out) (hc : s[i]? = some c) (hne : ¬ (c.toNat : Int) = 44) : PInv s fr (i + 1) out := by
  have hlt := (List.getElem?_eq_some_iff.1 hc).1
  obtain ⟨h1, h2, h3⟩ := pinv_go h (by omega)
  exact .inl ⟨by omega, by omega, noSep_next h2 hc hne, h3⟩
theorem pinv_last {s : List UInt8} {fr i : Nat} {out : List (List UInt8)} (h : PInv s fr i out) (hi : i = s.length) : PInv s (i + 1) (i + 1) (out ++ [(s.drop fr).take (i - fr)]) := by
  obtain ⟨h1, h2, h3⟩ := pinv_go h (by omega)
  subst hi
  exact .inr ⟨rfl, parts_end h2 h3⟩
theorem pinv_done {s : List UInt8} {fr i : Nat} {out : List (List UInt8)} (h : PInv s fr i out) (hi : ¬ i ≤ s.length) : out = Lib.split s [44] := by
  rcases h with h | h
  · omega
  · exact h.2
theorem pinv_len {s : List UInt8} {fr i : Nat} {out : List (List UInt8)} (h : PInv s fr i out) : out.length ≤ s.length + 1 := by
  have h1 := split_len s
  rcases h with ⟨_, _, _, h⟩ | ⟨_, h⟩
  · have := congrArg List.length h
    rw [List.length_append] at this
    omega
  · rw [h]; exact h1
theorem pl_len (s : List UInt8) : (parseList s).1.length ≤ s.length + 1 := by
  unfold parseList
  split
  · simp
  · unfold parseParts
    split
    · rename_i out h
      rw [plU_len h]
      exact split_len s
    · simp
end Go.LK.Dc
