/-
  The plain law of jobs: rising rows of numbers, and what is left of them.
-/
import Derived.Test.YtnkhmbbnabejhaaLk9
import Derived.Lib.SlicesCompact
import Derived.Sort.OwnSortedInts
namespace Go.LK.Jb
open Go Go.LK
/-- A number set into a rising row. -/
def ins0 : List Int → Int → List Int
  | [], x => [x]
  | y :: o, x => if y < x then y :: ins0 o x else x :: y :: o
def ins (o : List Int) (x : Int) : List Int := if x ∈ o then o else ins0 o x
def rising (l : List Int) : List Int := l.foldl ins []
abbrev Up (o : List Int) : Prop := o.Pairwise (· < ·)
theorem mem_ins0 {o : List Int} {x y : Int} : y ∈ ins0 o x ↔ y = x ∨ y ∈ o := by
  induction o with
  | nil => simp [ins0]
  | cons z o ih =>
    unfold ins0
    split
    · simp only [List.mem_cons, ih]
      constructor
      · rintro (h | h | h) <;> simp [h]
      · rintro (h | h | h) <;> simp [h]
    · simp only [List.mem_cons]
theorem up_ins0 {o : List Int} {x : Int} (h : Up o) (hx : x ∉ o) : Up (ins0 o x) := by
  induction o with
  | nil => simp [ins0]
  | cons z o ih =>
    have hz := List.pairwise_cons.1 h
    have hxz : x ≠ z := fun he => hx (by simp [he])
    unfold ins0
    split
    · rename_i hlt
      refine List.pairwise_cons.2 ⟨fun y hy => ?_, ih hz.2 fun he => hx (List.mem_cons_of_mem _ he)⟩
      rcases mem_ins0.1 hy with rfl | hy
      · exact hlt
      · exact hz.1 y hy
    · rename_i hlt
      refine List.pairwise_cons.2 ⟨fun y hy => ?_, h⟩
      rcases List.mem_cons.1 hy with rfl | hy
      · omega
      · have := hz.1 y hy
        omega
theorem mem_ins {o : List Int} {x y : Int} : y ∈ ins o x ↔ y = x ∨ y ∈ o := by
  unfold ins
  split
  · rename_i h
    constructor
    · exact .inr
    · rintro (rfl | h2)
      · exact h
      · exact h2
  · exact mem_ins0
theorem up_ins {o : List Int} {x : Int} (h : Up o) : Up (ins o x) := by
  unfold ins
  split
  · exact h
  · exact up_ins0 h (by assumption)
theorem up_foldl {l o : List Int} (h : Up o) : Up (l.foldl ins o) := by
  induction l generalizing o with
  | nil => exact h
  | cons x l ih => exact ih (up_ins h)
theorem mem_foldl {l o : List Int} {y : Int} : y ∈ l.foldl ins o ↔ y ∈ l ∨ y ∈ o := by
  induction l generalizing o with
  | nil => simp
  | cons x l ih =>
    rw [List.foldl_cons, ih, mem_ins, List.mem_cons]
    constructor
    · rintro (h | h | h) <;> simp [h]
    · rintro ((h | h) | h) <;> simp [h]
theorem rising_up (l : List Int) : Up (rising l) := up_foldl .nil
theorem mem_rising {l : List Int} {y : Int} : y ∈ rising l ↔ y ∈ l := by rw [rising, mem_foldl]; simp
theorem up_ext {a b : List Int} (ha : Up a) (hb : Up b) (h : ∀ x, x ∈ a ↔ x ∈ b) : a = b := by
  induction a generalizing b with
  | nil =>
    cases b with
    | nil => rfl
    | cons y b => exact absurd ((h y).2 (by simp)) (by simp)
  | cons x a ih =>
    cases b with
    | nil => exact absurd ((h x).1 (by simp)) (by simp)
    | cons y b =>
      have h1 := List.pairwise_cons.1 ha
      have h2 := List.pairwise_cons.1 hb
      have hxy : x = y := by
        rcases List.mem_cons.1 ((h x).1 (by simp)) with he | he
        · exact he
        · rcases List.mem_cons.1 ((h y).2 (by simp)) with hf | hf
          · exact hf.symm
          · have := h2.1 x he; have := h1.1 y hf; omega
      subst hxy
      rw [ih h1.2 h2.2 fun z => ⟨fun hz => ?_, fun hz => ?_⟩]
      · rcases List.mem_cons.1 ((h z).1 (List.mem_cons_of_mem _ hz)) with he | he
        · have := h1.1 z hz; omega
        · exact he
      · rcases List.mem_cons.1 ((h z).2 (List.mem_cons_of_mem _ hz)) with he | he
        · have := h2.1 z hz; omega
        · exact he
/-! ### What Go's library makes of it -/
/-! ### One of them is answered -/
end Go.LK.Jb
