/-
  The plain law of jobs: rising rows of numbers, and what is left of them.
-/
import Derived.Test.YtnkhmbbnabejhaaLk9
import Derived.Lib.SlicesCompact
import Derived.Sort.OwnSortedInts
namespace Go.LK.Jb
open Go Go.LK
/-- A number set into a rising row. -/
def ins0 : List Int → Int → List Int
  | [], x => [x]
  | y :: o, x => if y < x then y :: ins0 o x else x :: y :: o
def ins (o : List Int) (x : Int) : List Int := if x ∈ o then o else ins0 o x
def rising (l : List Int) : List Int := l.foldl ins []
abbrev Up (o : List Int) : Prop := o.Pairwise (· < ·)
theorem mem_ins0 {o : List Int} {x y : Int} : y ∈ ins0 o x ↔ y = x ∨ y ∈ o := by
  induction o with
  | nil => simp [ins0]
  | cons z o ih =>
    unfold ins0
    split
    · simp only [List.mem_cons, ih]
      constructor
      · rintro (h | h | h) <;> simp [h]
      · rintro (h | h | h) <;> simp [h]
    · simp only [List.mem_cons]
theorem up_ins0 {o : List Int} {x : Int} (h : Up o) (hx : x ∉ o) : Up (ins0 o x) := by
  induction o with
  | nil => simp [ins0]
  | cons z o ih =>
    have hz := List.pairwise_cons.1 h
    have hxz : x ≠ z := fun he => hx (by simp [he])
    unfold ins0
    split
    · rename_i hlt
      refine List.pairwise_cons.2 ⟨fun y hy => ?_, ih hz.2 fun he => hx (List.mem_cons_of_mem _ he)⟩
      rcases mem_ins0.1 hy with rfl | hy
      · exact hlt
      · exact hz.1 y hy
    · rename_i hlt
      refine List.pairwise_cons.2 ⟨fun y hy => ?_, h⟩
      rcases List.mem_cons.1 hy with rfl | hy
      · omega
      · have := hz.1 y hy
        omega
theorem mem_ins {o : List Int} {x y : Int} : y ∈ ins o x ↔ y = x ∨ y ∈ o := by
  unfold ins
  split
  · rename_i h
    constructor
    · exact .inr
    · rintro (rfl | h2)
      · exact h
      · exact h2
  · exact mem_ins0
theorem up_ins {o : List Int} {x : Int} (h : Up o) : Up (ins o x) := by
  unfold ins
  split
  · exact h
  · exact up_ins0 h (by assumption)
theorem up_foldl {l o : List Int} (h : Up o) : Up (l.foldl ins o) := by
  induction l generalizing o with
  | nil => exact h
  | cons x l ih => exact ih (up_ins h)
theorem mem_foldl {l o : List Int} {y : Int} : y ∈ l.foldl ins o ↔ y ∈ l ∨ y ∈ o := by
  induction l generalizing o with
  | nil => simp
  | cons x l ih =>
    rw [List.foldl_cons, ih, mem_ins, List.mem_cons]
    constructor
    · rintro (h | h | h) <;> simp [h]
    · rintro ((h | h) | h) <;> simp [h]
theorem rising_up (l : List Int) : Up (rising l) := up_foldl .nil
theorem mem_rising {l : List Int} {y : Int} : y ∈ rising l ↔ y ∈ l := by rw [rising, mem_foldl]; simp
theorem up_ext {a b : List Int} (ha : Up a) (hb : Up b) (h : ∀ x, x ∈ a ↔ x ∈ b) : a = b := by
  induction a generalizing b with
  | nil =>
    cases b with
    | nil => rfl
    | cons y b => exact absurd ((h y).2 (by simp)) (by simp)
  | cons x a ih =>
    cases b with
    | nil => exact absurd ((h x).1 (by simp)) (by simp)
    | cons y b =>
      have h1 := List.pairwise_cons.1 ha
      have h2 := List.pairwise_cons.1 hb
      have hxy : x = y := by
        rcases List.mem_cons.1 ((h x).1 (by simp)) with he | he
        · exact he
        · rcases List.mem_cons.1 ((h y).2 (by simp)) with hf | hf
          · exact hf.symm
          · have := h2.1 x he; have := h1.1 y hf; omega
      subst hxy
      rw [ih h1.2 h2.2 fun z => ⟨fun hz => ?_, fun hz => ?_⟩]
      · rcases List.mem_cons.1 ((h z).1 (List.mem_cons_of_mem _ hz)) with he | he
        · have := h1.1 z hz; omega
        · exact he
      · rcases List.mem_cons.1 ((h z).2 (List.mem_cons_of_mem _ hz)) with he | he
        · have := h2.1 z hz; omega
        · exact he
theorem rising_of_up {l : List Int} (h : Up l) : rising l = l := up_ext (rising_up l) h fun _ => mem_rising
theorem rising_nil {l : List Int} : rising l = [] ↔ l = [] := by
  constructor
  · intro h
    cases l with
    | nil => rfl
    | cons x l => exact absurd (mem_rising (l := x :: l).2 (List.mem_cons_self)) (by rw [h]; simp)
  · rintro rfl; rfl
theorem ins_le {o : List Int} {x : Int} : (ins o x).length ≤ o.length + 1 := by
  have h0 : ∀ o : List Int, (ins0 o x).length = o.length + 1 := by
    intro o
    induction o with
    | nil => rfl
    | cons z o ih => unfold ins0; split <;> simp [ih]
  unfold ins; split
  · omega
  · rw [h0]; exact Nat.le_refl _
theorem rising_take {l : List Int} {k : Nat} {x : Int} (h : l[k]? = some x) : rising (l.take (k + 1)) = ins (rising (l.take k)) x := by
  unfold rising
  rw [List.take_add_one, h, List.foldl_append]; rfl
theorem foldl_len {l o : List Int} : (l.foldl ins o).length ≤ o.length + l.length := by
  induction l generalizing o with
  | nil => simp
  | cons x l ih => rw [List.foldl_cons]; have := @ih (ins o x); have := @ins_le o x; simp only [List.length_cons]; omega
theorem rising_len {l : List Int} : (rising l).length ≤ l.length := by have := @foldl_len l []; unfold rising; simpa using this
/-- The place at which the loop stops. -/
theorem ins0_at {o : List Int} {x : Int} {k : Nat} (h1 : ((o.take k).all fun y => decide (y < x)) = true) (h2 : k ≤ o.length) (h3 : ¬ k < o.length ∨ ∃ y, o[k]? = some y ∧ ¬ y < x) : o.take k ++ [x] ++ o.drop k = ins0 o x := by
  induction o generalizing k with
  | nil => simp at h2; subst h2; rfl
  | cons z o ih =>
    cases k with
    | zero =>
      rcases h3 with h3 | ⟨y, hy, hn⟩
      · simp at h3
      · simp at hy; subst hy; simp [ins0, hn]
    | succ k =>
      simp only [List.take_succ_cons, List.all_cons, Bool.and_eq_true, decide_eq_true_eq] at h1
      rw [ins0, if_pos h1.1, ← ih h1.2 (by simpa using h2) (by simpa using h3)]
      simp
theorem lt_next {o : List Int} {x y : Int} {k : Nat} (h1 : ((o.take k).all fun y => decide (y < x)) = true) (hy : o[k]? = some y) (hlt : y < x) : ((o.take (k + 1)).all fun y => decide (y < x)) = true := by
  rw [List.take_add_one, hy, List.all_append, h1]; simp [hlt]
/-! ### What Go's library makes of it -/
theorem compact_spec {d : Array Int} (hs : ∀ i j, i ≤ j → j < d.size → d[i]! ≤ d[j]!) : ∀ m, m ≤ d.size → Up (Go.Lib.compactUpTo d m) ∧ ∀ y, y ∈ Go.Lib.compactUpTo d m ↔ ∃ j, j < m ∧ d[j]! = y := by
  intro m
  induction m with
  | zero => intro _; refine ⟨by simp [Go.Lib.compactUpTo], fun y => by simp [Go.Lib.compactUpTo]⟩
  | succ m ih =>
    intro hm
    obtain ⟨h1, h2⟩ := ih (by omega)
    rw [Go.Lib.compactUpTo_succ]
    by_cases hk : Go.Lib.keeps d m = true
    · rw [if_pos hk]
      refine ⟨List.pairwise_append.2 ⟨h1, by simp, fun a ha b hb => ?_⟩, fun y => ?_⟩
      · obtain ⟨j, hj, rfl⟩ := (h2 a).1 ha
        rw [List.mem_singleton.1 hb]
        simp only [Go.Lib.keeps, decide_eq_true_eq] at hk
        rcases hk with hk | hk
        · omega
        · have := hs j (m - 1) (by omega) (by omega)
          have := hs (m - 1) m (by omega) (by omega)
          omega
      · rw [List.mem_append, h2, List.mem_singleton]
        constructor
        · rintro (⟨j, hj, rfl⟩ | rfl)
          · exact ⟨j, by omega, rfl⟩
          · exact ⟨m, by omega, rfl⟩
        · rintro ⟨j, hj, rfl⟩
          rcases Nat.lt_or_ge j m with h | h
          · exact .inl ⟨j, h, rfl⟩
          · exact .inr (by rw [show j = m from by omega])
    · rw [if_neg hk, List.append_nil]
      refine ⟨h1, fun y => ?_⟩
      rw [h2]
      constructor
      · rintro ⟨j, hj, rfl⟩; exact ⟨j, by omega, rfl⟩
      · rintro ⟨j, hj, rfl⟩
        rcases Nat.lt_or_ge j m with h | h
        · exact ⟨j, h, rfl⟩
        · have hjm : j = m := by omega
          subst hjm
          simp only [Go.Lib.keeps, decide_eq_true_eq, not_or, Classical.not_not] at hk
          exact ⟨j - 1, by omega, hk.2.symm⟩
theorem compact_sort (l : List Int) : Go.Lib.compact (l.mergeSort fun x y => decide (x ≤ y)) = rising l := by
  have hp : (l.mergeSort fun x y => decide (x ≤ y)).Pairwise fun x y => decide (x ≤ y) = true := List.pairwise_mergeSort (fun a b c h1 h2 => by simp at *; omega) (fun a b => by simp; omega) l
  have hs : ∀ i j, i ≤ j → j < (l.mergeSort fun x y => decide (x ≤ y)).toArray.size → (l.mergeSort fun x y => decide (x ≤ y)).toArray[i]! ≤ (l.mergeSort fun x y => decide (x ≤ y)).toArray[j]! := by
    intro i j hij hj
    rw [getElem!_pos _ i (by omega), getElem!_pos _ j hj]
    simp only [List.getElem_toArray]
    rcases Nat.lt_or_ge i j with h | h
    · have := List.pairwise_iff_getElem.1 hp i j (by simpa using (by omega : i < (l.mergeSort fun x y => decide (x ≤ y)).toArray.size)) (by simpa using hj) h
      simpa using this
    · have : i = j := by omega
      subst this; exact Int.le_refl _
  obtain ⟨h1, h2⟩ := compact_spec hs _ (Nat.le_refl _)
  refine up_ext (by simpa [Go.Lib.compact] using h1) (rising_up l) fun x => ?_
  rw [mem_rising, ← (List.mergeSort_perm l fun x y => decide (x ≤ y)).mem_iff]
  have h3 := h2 x
  simp only [Go.Lib.compact, List.size_toArray] at h3 ⊢
  rw [h3]
  constructor
  · rintro ⟨j, hj, rfl⟩
    rw [getElem!_pos _ j (by simpa using hj)]
    simp
  · intro h
    obtain ⟨j, hj, rfl⟩ := List.mem_iff_getElem.1 h
    exact ⟨j, hj, by rw [getElem!_pos _ j (by simpa using hj)]; simp⟩
/-! ### One of them is answered -/
theorem idx_del {o : List Int} {c : Int} {k : Nat} (h : Up o) (hc : o[k]? = some c) : o.take k ++ o.drop (k + 1) = o.filter fun x => decide (x ≠ c) := by
  induction o generalizing k with
  | nil => simp at hc
  | cons z o ih =>
    have hz := List.pairwise_cons.1 h
    cases k with
    | zero =>
      simp at hc; subst hc
      have : o.filter (fun x => decide (x ≠ z)) = o := List.filter_eq_self.2 fun x hx => by have := hz.1 x hx; simp; omega
      simp only [ne_eq, decide_not] at this
      simp [this]
    | succ k =>
      simp at hc
      have hm : c ∈ o := List.mem_of_getElem? hc
      have hne : z ≠ c := by have := hz.1 c hm; omega
      have := ih hz.2 hc
      simp only [List.take_succ_cons, List.drop_succ_cons, List.cons_append, List.filter_cons]
      rw [if_pos (by simp [hne]), this]
theorem filter_next {o : List Int} {c x : Int} {k : Nat} (hx : o[k]? = some x) : (o.take (k + 1)).filter (fun x => decide (x ≠ c)) = (o.take k).filter (fun x => decide (x ≠ c)) ++ (if x ≠ c then [x] else []) := by
  rw [List.take_add_one, hx, List.filter_append]
  by_cases h : x = c <;> simp [h]
end Go.LK.Jb
