/-
  The plain law of jobs, further: who was heard.
-/
import Derived.Test.YtnkhmbbnabejhaaJob0
import Derived.Lib.RowBridge
namespace Go.LK
structure An where
  call : Int
  code : Int
def An.cells (e : An) : List Value := [.int .i64 e.call, .int .i64 e.code]
theorem An.one {l : List An} : ∀ a ∈ l, (An.cells a).all Value.oneCell' = true := fun _ _ => rfl
def encBo (b : Bool) : List Value := [.bool b]
theorem encBo.one {l : List Bool} : ∀ a ∈ l, (encBo a).all Value.oneCell' = true := fun _ _ => rfl
end Go.LK
namespace Go.LK.Jb
open Go Go.LK
/-- The place of a number in a row. -/
def IdxP (l : List Int) (x k : Int) : Prop := (k = -1 ∧ x ∉ l) ∨ ∃ n : Nat, k = n ∧ l[n]? = some x ∧ ∀ j, j < n → ∀ y, l[j]? = some y → y ≠ x
theorem idx_no {l : List Int} {x : Int} {k : Nat} (h : ∀ j, j < k → ∀ y, l[j]? = some y → y ≠ x) (hk : ¬ k < l.length) : IdxP l x (-1) := .inl ⟨rfl, fun hm => by
  obtain ⟨j, hj⟩ := List.mem_iff_getElem?.1 hm
  have := (List.getElem?_eq_some_iff.1 hj).1
  exact h j (by omega) x hj rfl⟩
theorem idx_yes {l : List Int} {x y : Int} {k : Nat} (h : ∀ j, j < k → ∀ y, l[j]? = some y → y ≠ x) (hy : l[k]? = some y) (he : x = y) : IdxP l x (k : Int) := .inr ⟨k, rfl, by rw [hy, he], h⟩
theorem idx_next {l : List Int} {x y : Int} {k : Nat} (h : ∀ j, j < k → ∀ y, l[j]? = some y → y ≠ x) (hy : l[k]? = some y) (he : ¬ x = y) : ∀ j, j < k + 1 → ∀ y, l[j]? = some y → y ≠ x := fun j hj z hz => by
  rcases Nat.lt_or_ge j k with h1 | h1
  · exact h j h1 z hz
  · have : j = k := by omega
    subst this
    rw [hy] at hz; cases hz
    exact fun h => he h.symm
theorem idx_mem {l : List Int} {x k : Int} (h : IdxP l x k) : 0 ≤ k ↔ x ∈ l := by
  rcases h with ⟨rfl, h⟩ | ⟨n, rfl, h, _⟩
  · exact ⟨fun h => by omega, fun h2 => absurd h2 h⟩
  · exact ⟨fun _ => List.mem_of_getElem? h, fun _ => by omega⟩
theorem idx_at {l : List Int} {x k : Int} (h : IdxP l x k) (h0 : 0 ≤ k) : l[k.toNat]? = some x ∧ k < l.length ∧ k.toNat + 1 = (k + 1).toNat := by
  rcases h with ⟨rfl, _⟩ | ⟨n, rfl, h, _⟩
  · omega
  · refine ⟨by simpa using h, ?_, by omega⟩
    have := (List.getElem?_eq_some_iff.1 h).1
    omega
def without (l : List Int) (c : Int) : List Int := l.filter fun x => decide (x ≠ c)
theorem del_at {l : List Int} {x k : Int} (hu : Up l) (h : IdxP l x k) (h0 : 0 ≤ k) : l.take k.toNat ++ l.drop (k + 1).toNat = without l x := by
  obtain ⟨h1, _, h3⟩ := idx_at h h0
  rw [← h3]; exact idx_del hu h1
theorem without_up {l : List Int} {c : Int} (h : Up l) : Up (without l c) := List.Pairwise.filter _ h
theorem without_len {l : List Int} {c : Int} : (without l c).length ≤ l.length := List.length_filter_le _ _
theorem has_next {l : List Int} {x y : Int} {k : Nat} (h : x ∉ l.take k) (hy : l[k]? = some y) (hn : ¬ y = x) : x ∉ l.take (k + 1) := by
  rw [List.take_add_one, hy, List.mem_append]
  simp only [Option.toList_some, List.mem_singleton, not_or]
  exact ⟨h, fun he => hn he.symm⟩
theorem has_hit {l : List Int} {x y : Int} {k : Nat} (hy : l[k]? = some y) (he : y = x) : x ∈ l := he ▸ List.mem_of_getElem? hy
theorem has_miss {l : List Int} {x : Int} {k : Nat} (h : x ∉ l.take k) (hk : ¬ k < l.length) : x ∉ l := by rwa [List.take_of_length_le (by omega)] at h
theorem without_next1 {l : List Int} {c y : Int} {k : Nat} (hy : l[k]? = some y) (h : ¬ y = c) : without (l.take (k + 1)) c = without (l.take k) c ++ [y] := by
  unfold without; rw [filter_next hy, if_pos h]
theorem without_next0 {l : List Int} {c y : Int} {k : Nat} (hy : l[k]? = some y) (h : y = c) : without (l.take (k + 1)) c = without (l.take k) c := by
  unfold without; rw [filter_next hy, if_neg (by simp [h])]; simp
theorem ins_in {o : List Int} {x : Int} (h : x ∈ o) : ins o x = o := if_pos h
theorem ins_out {o : List Int} {x : Int} (h : x ∉ o) : ins o x = ins0 o x := if_neg h
/-! ### Who was heard -/
def seen (l : List An) (k : Nat) (x : Int) : Bool := (l.take k).any fun a => decide (a.call = x)
def rem (needs : List Int) (l : List An) (k : Nat) : List Int := (rising needs).filter fun x => !seen l k x
section
variable {needs : List Int} {l : List An} {k q : Nat} {a : An} {x : Int}
theorem seen_zero : seen l 0 x = false := rfl
theorem seen_next (ha : l[k]? = some a) : seen l (k + 1) x = (seen l k x || decide (a.call = x)) := by
  unfold seen; rw [List.take_add_one, ha, List.any_append]; simp
theorem rem_zero : rem needs l 0 = rising needs := List.filter_eq_self.2 fun x _ => by rw [seen_zero]; rfl
theorem rem_up : Up (rem needs l k) := List.Pairwise.filter _ (rising_up needs)
theorem rem_len : (rem needs l k).length ≤ needs.length := Nat.le_trans (List.length_filter_le _ _) rising_len
theorem mem_rem : x ∈ rem needs l k ↔ x ∈ needs ∧ seen l k x = false := by
  unfold rem; rw [List.mem_filter, mem_rising]; simp
theorem rem_next (ha : l[k]? = some a) : rem needs l (k + 1) = without (rem needs l k) a.call := by
  unfold rem without
  rw [List.filter_filter]
  refine List.filter_congr fun x _ => ?_
  rw [seen_next ha]
  by_cases h : a.call = x
  · simp [h]
  · have : ¬ x = a.call := fun he => h he.symm
    simp [h, this]
theorem rem_not (ha : l[k]? = some a) (h : a.call ∉ rem needs l k) : rem needs l (k + 1) = rem needs l k := by
  rw [rem_next ha, without]
  exact List.filter_eq_self.2 fun x hx => by
    have : x ≠ a.call := fun he => h (he ▸ hx)
    simp [this]
/-- Is it a call of mine? -/
def mineK (needs : List Int) (l : List An) (k q : Nat) (c : Int) : Bool := (needs.take q).any fun x => decide (x = c) && !seen l k x
def leftK (needs : List Int) (l : List An) (k q : Nat) : Nat := (needs.take q).countP fun x => !seen l (k + 1) x
def heardK (needs : List Int) (l : List An) (k q : Nat) : List Bool := (needs.take q).map (seen l (k + 1)) ++ (needs.drop q).map (seen l k)
theorem mine_next {c : Int} (hx : needs[q]? = some x) : mineK needs l k (q + 1) c = (mineK needs l k q c || (decide (x = c) && !seen l k x)) := by
  unfold mineK; rw [List.take_add_one, hx, List.any_append]; simp
theorem left_next (hx : needs[q]? = some x) : leftK needs l k (q + 1) = leftK needs l k q + (if seen l (k + 1) x then 0 else 1) := by
  unfold leftK; rw [List.take_add_one, hx, List.countP_append]
  cases hs : seen l (k + 1) x <;> simp [hs]
theorem left_le : leftK needs l k q ≤ q := Nat.le_trans List.countP_le_length (by rw [List.length_take]; omega)
theorem heard_len (h : q ≤ needs.length) : (heardK needs l k q).length = needs.length := by
  unfold heardK; simp; omega
theorem heard_at (hx : needs[q]? = some x) : (heardK needs l k q)[q]? = some (seen l k x) := by
  have hq := (List.getElem?_eq_some_iff.1 hx).1
  unfold heardK
  rw [List.getElem?_append_right (by simp; omega)]
  simp only [List.length_map, List.length_take, List.getElem?_map, List.getElem?_drop]
  rw [show q + (q - min q needs.length) = q from by omega, hx]; rfl
theorem heard_set (hx : needs[q]? = some x) : (heardK needs l k q).set q (seen l (k + 1) x) = heardK needs l k (q + 1) := by
  have hq := (List.getElem?_eq_some_iff.1 hx).1
  have hd : needs.drop q = x :: needs.drop (q + 1) := by
    rw [List.drop_eq_getElem_cons hq]; rw [List.getElem?_eq_getElem hq] at hx; cases hx; rfl
  unfold heardK
  rw [hd, List.map_cons, List.set_append_right _ _ (by simp; omega), List.take_add_one, hx]
  simp only [List.length_map, List.length_take]
  rw [show q - min q needs.length = 0 from by omega]
  simp
theorem heard_zero : heardK needs l k 0 = needs.map (seen l k) := by simp [heardK]
theorem heard_all (h : needs.length ≤ q) : heardK needs l k q = needs.map (seen l (k + 1)) := by
  unfold heardK; rw [List.take_of_length_le h, List.drop_eq_nil_of_le h]; simp
theorem mine_all {c : Int} (h : needs.length ≤ q) : mineK needs l k q c = decide (c ∈ rem needs l k) := by
  unfold mineK
  rw [List.take_of_length_le h, Bool.eq_iff_iff, List.any_eq_true, decide_eq_true_eq, mem_rem]
  constructor
  · rintro ⟨x, hx, h⟩
    simp only [Bool.and_eq_true, decide_eq_true_eq, Bool.not_eq_true'] at h
    rw [← h.1]; exact ⟨hx, h.2⟩
  · rintro ⟨h1, h2⟩
    exact ⟨c, h1, by simp [h2]⟩
theorem left_all (h : needs.length ≤ q) : leftK needs l k q = 0 ↔ rem needs l (k + 1) = [] := by
  unfold leftK
  rw [List.take_of_length_le h, List.countP_eq_zero]
  constructor
  · intro h
    refine List.eq_nil_iff_forall_not_mem.2 fun x hx => ?_
    obtain ⟨h1, h2⟩ := mem_rem.1 hx
    have := h x h1
    simp [h2] at this
  · intro h x hx
    cases hs : seen l (k + 1) x with
    | true => simp
    | false =>
      have : x ∈ rem needs l (k + 1) := mem_rem.2 ⟨hx, hs⟩
      rw [h] at this; cases this
theorem inner_next {hs2 : List Bool} {m m' b e3 x' : Bool} {lf lf' : Int} (hh : hs2 = heardK needs l k q) (hm : m = mineK needs l k q a.call) (hl : lf = (leftK needs l k q : Int)) (ha : l[k]? = some a) (hx : needs[q]? = some x) (hb : hs2[q]? = some b) (h3 : (hs2.set q x')[q]? = some e3)
    (hx' : x' = (b || decide (x = a.call))) (hm' : m' = (m || (decide (x = a.call) && !b))) (hl' : lf' = lf + (if e3 then 0 else 1)) : hs2.set q x' = heardK needs l k (q + 1) ∧ m' = mineK needs l k (q + 1) a.call ∧ lf' = (leftK needs l k (q + 1) : Int) := by
  subst hh
  rw [heard_at hx] at hb
  obtain rfl := Option.some.inj hb
  have hq : q < (heardK needs l k q).length := by
    rw [heard_len (Nat.le_of_lt (List.getElem?_eq_some_iff.1 hx).1)]; exact (List.getElem?_eq_some_iff.1 hx).1
  rw [List.getElem?_set, if_pos rfl, if_pos hq] at h3
  obtain rfl := Option.some.inj h3
  have hse : x' = seen l (k + 1) x := by
    rw [hx', seen_next ha]
    congr 1
    rw [decide_eq_decide]
    exact ⟨fun h => h.symm, fun h => h.symm⟩
  refine ⟨by rw [hse]; exact heard_set hx, by rw [hm', mine_next hx, ← hm], ?_⟩
  rw [hl', hl, left_next hx, hse]
  cases seen l (k + 1) x <;> simp
end
end Go.LK.Jb
