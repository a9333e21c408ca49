/-
  The plain law of numbers' texts in a row.
-/
import Derived.Lib.SplitLaws
import Derived.Test.YtilcmkegbmppnaaDoorDec1
import Derived.Test.YtilcmkegbmppnaaDoorLk21
namespace Go.LK.Dc
open Go Go.LK

def plU (ps : List (List UInt8)) : Nat → Option (List Int)
  | 0 => some []
  | k + 1 => match plU ps k, ps[k]? with
    | some out, some p => if (parse p).2 = 0 then some (out ++ [(parse p).1]) else none
    | _, _ => none
theorem plU_next {ps : List (List UInt8)} {k : Nat} {out : List Int} {p : List UInt8} (h : plU ps k = some out) (hp : ps[k]? = some p) (h0 : (parse p).2 = 0) : plU ps (k + 1) = some (out ++ [(parse p).1]) := by
  simp [plU, h, hp, h0]
theorem plU_stop {ps : List (List UInt8)} {k : Nat} {out : List Int} {p : List UInt8} (h : plU ps k = some out) (hp : ps[k]? = some p) (h0 : ¬ (parse p).2 = 0) : ∀ m, k < m → plU ps m = none := by
  intro m
  induction m with
  | zero => intro hk; omega
  | succ m ih =>
    intro hk
    by_cases he : m = k
    · subst he; simp [plU, h, hp, h0]
    · have := ih (by omega)
      simp [plU, this]
theorem plU_len {ps : List (List UInt8)} : ∀ {k : Nat} {out : List Int}, plU ps k = some out → out.length = k
  | 0, out, h => by simp [plU] at h; subst h; rfl
  | k + 1, out, h => by
    simp only [plU] at h
    split at h
    · rename_i o p ho hp
      split at h
      · cases h
        rw [List.length_append, plU_len ho]; rfl
      · cases h
    · cases h
def parseParts (ps : List (List UInt8)) : List Int × Int := match plU ps ps.length with | some out => (out, 0) | none => ([], 2)
def parseList (s : List UInt8) : List Int × Int := if s = [45] then ([], 0) else parseParts (Lib.split s [44])
theorem code_two (s : List UInt8) : (parse s).2 = 0 ∨ (parse s).2 = 2 := by
  rcases parse_cases s with ⟨n, _, _, h⟩ | ⟨h, _⟩ <;> rw [h] <;> simp
theorem pl_dash {s : List UInt8} (h : (s == [45]) = true) : parseList s = ([], 0) := if_pos (by simpa using h)
theorem pl_all {s : List UInt8} {out : List Int} (h : (s == [45]) = false) (hk : plU (Lib.split s [44]) (Lib.split s [44]).length = some out) : parseList s = (out, 0) := by
  rw [parseList, if_neg (by simpa using h), parseParts, hk]
theorem pl_bad {s : List UInt8} {k : Nat} {out : List Int} {p : List UInt8} (h : (s == [45]) = false) (hk : plU (Lib.split s [44]) k = some out) (hp : (Lib.split s [44])[k]? = some p) (h0 : ¬ (parse p).2 = 0) : parseList s = ([], (parse p).2) := by
  have hlt := (List.getElem?_eq_some_iff.1 hp).1
  have h2 := code_two p
  rw [parseList, if_neg (by simpa using h), parseParts, plU_stop hk hp h0 _ hlt, show (parse p).2 = 2 from by omega]
theorem split_len (s : List UInt8) : (Lib.split s [44]).length ≤ s.length + 1 := by
  have key : ∀ (k : Nat) (t : List UInt8), (Lib.splitK [44] 0 k t).length ≤ t.length + 1 := fun k => by
    induction k with
    | zero => intro t; simp [Lib.splitK]
    | succ k ih =>
      intro t
      unfold Lib.splitK
      split
      · simp
      · rename_i h
        have h1 : ¬ Lib.index t [44] = -1 := by simpa using h
        have h2 := ih (t.drop ((Lib.index t [44]).toNat + [44].length))
        rw [List.length_drop, List.length_singleton] at h2
        have h3 : 0 ≤ Lib.index t [44] := by
          rcases Lib.index_spec t [44] with ⟨h4, _⟩ | ⟨i, h4, _⟩ <;> omega
        have h5 := Lib.index_room t [44] h3
        rw [List.length_singleton] at h5
        rw [List.length_cons, List.length_singleton]
        omega
  exact key _ s
theorem split_part (s : List UInt8) : ∀ p ∈ Lib.split s [44], p.length ≤ s.length := by
  have key : ∀ (k : Nat) (t : List UInt8), ∀ p ∈ Lib.splitK [44] 0 k t, p.length ≤ t.length := fun k => by
    induction k with
    | zero => intro t p hp; simp [Lib.splitK] at hp; subst hp; exact Nat.le_refl _
    | succ k ih =>
      intro t p hp
      unfold Lib.splitK at hp
      split at hp
      · simp at hp; subst hp; exact Nat.le_refl _
      · rw [List.mem_cons] at hp
        rcases hp with rfl | hp
        · simp only [List.length_take]; omega
        · have := ih _ p hp
          simp only [List.length_drop] at this
          omega
  exact key _ s
end Go.LK.Dc
