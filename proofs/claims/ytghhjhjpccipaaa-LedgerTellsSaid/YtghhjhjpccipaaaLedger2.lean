/-
  The plain law of 'the last fate of something', for a range that goes from the end.
-/
import Derived.Test.YtghhjhjpccipaaaLedger1
namespace Go.LK
def Ft.of (g : Nat → Int) : Ft := ⟨g 0, g 1, g 2, g 3, g 4, g 5, g 6, g 7⟩
theorem Ft.of_cells (g : Nat → Int) : Ft.cells (Ft.of g) = (List.range 8).map fun j => Value.int .i64 (g j) := rfl
end Go.LK
namespace Go.LK.Ld
open Go Go.LK

def lastNo (l : List Ft) (s id : Int) (m : Nat) : Prop := ∀ (i : Nat) (y : Ft), l.length - m ≤ i → l[i]? = some y → ¬ (y.s = s ∧ y.id = id)
theorem lastNo_zero {l : List Ft} {s id : Int} : lastNo l s id 0 := fun i y h hy => by
  have := (List.getElem?_eq_some_iff.1 hy).1
  omega
theorem rev_at {α : Type} {l : List α} {m : Nat} {e : α} (h : l.reverse[m]? = some e) : m < l.length ∧ l[l.length - 1 - m]? = some e := by
  have hm : m < l.length := by
    have := (List.getElem?_eq_some_iff.1 h).1
    simpa using this
  exact ⟨hm, by rw [List.getElem?_reverse hm] at h; exact h⟩
theorem lastNo_hit {l : List Ft} {s id : Int} {m : Nat} {e : Ft} (hno : lastNo l s id m) (he : l.reverse[m]? = some e) (h : e.s = s ∧ e.id = id) : last l s id = (e, true) := by
  obtain ⟨hm, he⟩ := rev_at he
  have hz : lastZ l s id = ((l.length - 1 - m : Nat) : Int) := lastZ_at (by omega) (by rw [Int.toNat_natCast]; exact he) h.1 h.2 (fun i y hi hy => hno i y (by omega) hy)
  exact last_some (by rw [hz]; omega) (by rw [hz, Int.toNat_natCast]; exact he)
theorem lastNo_next {l : List Ft} {s id : Int} {m : Nat} {e : Ft} (hno : lastNo l s id m) (he : l.reverse[m]? = some e) (h : ¬ (e.s = s ∧ e.id = id)) : lastNo l s id (m + 1) := fun i y hi hy => by
  obtain ⟨hm, he⟩ := rev_at he
  by_cases hc : l.length - m ≤ i
  · exact hno i y hc hy
  · have : i = l.length - 1 - m := by omega
    subst this
    rw [he] at hy
    cases hy
    exact h
theorem lastNo_end {l : List Ft} {s id : Int} (hno : lastNo l s id l.length) : last l s id = (⟨0, 0, 0, 0, 0, 0, 0, 0⟩, false) :=
  last_none (by rw [lastZ_none (fun i y hy => hno i y (by omega) hy)]; omega)
theorem readU_len {l : List Ev} : ∀ {k : Nat} {out : List Ft}, readU l k = some out → out.length ≤ k
  | 0, out, h => by simp [readU] at h; subst h; simp
  | k + 1, out, h => by
    cases hk : readU l k with
    | none => rw [readU_none hk (k + 1) (Nat.le_succ k)] at h; cases h
    | some o =>
      have ih := readU_len hk
      cases he : l[k]? with
      | none =>
        have : readU l (k + 1) = some o := by simp [readU, hk, he]
        rw [this] at h; cases h; omega
      | some e =>
        rw [readU_succ hk he] at h
        have := step_len h
        omega
theorem read_len (l : List Ev) : (read l).1.length ≤ l.length := by
  unfold read
  split
  · rename_i out h
    exact readU_len h
  · simp
theorem opened_len (l : List Ft) : (opened l).length ≤ l.length := by
  unfold opened
  exact List.length_filter_le _ _
theorem tally_len (l : List Ft) : (tally l).length = 12 := by
  unfold tally
  have h : ∀ k, (upI tallyF (List.replicate 12 0) l k).length = 12 := by
    intro k
    induction k with
    | zero => simp [upI]
    | succ k ih =>
      simp only [upI]
      split
      · rw [tallyF_len, ih]
      · exact ih
  exact h _
theorem waited_yes {x : Ft} (h : (waited x).2 = true) : (waited x).1 = IntKind.i64.wrap (x.began - x.came) := by
  unfold waited at h ⊢
  split
  · rfl
  · rename_i hc; rw [if_neg hc] at h; cases h
theorem waited_no {x : Ft} (h : (waited x).2 = false) : (waited x).1 = 0 := by
  unfold waited at h ⊢
  split
  · rename_i hc; rw [if_pos hc] at h; cases h
  · rfl
end Go.LK.Ld
