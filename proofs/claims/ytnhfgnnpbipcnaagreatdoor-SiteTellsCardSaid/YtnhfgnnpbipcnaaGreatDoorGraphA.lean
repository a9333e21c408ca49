/-
  Several texts in one: Job0, Job1, Graph0, Graph1, Graph2.
-/
import Derived.Test.YtnhfgnnpbipcnaaGreatDoorLk9
import Derived.Lib.SlicesCompact
import Derived.Sort.OwnSortedInts
import Derived.Lib.RowBridge
import Derived.Test.YtnhfgnnpbipcnaaGreatDoorLkE
import Derived.Test.YtnhfgnnpbipcnaaGreatDoorConfA
namespace Go.LK.Jb
open Go Go.LK
/-- A number set into a rising row. -/
def ins0 : List Int → Int → List Int
  | [], x => [x]
  | y :: o, x => if y < x then y :: ins0 o x else x :: y :: o
def ins (o : List Int) (x : Int) : List Int := if x ∈ o then o else ins0 o x
def rising (l : List Int) : List Int := l.foldl ins []
/-! ### What Go's library makes of it -/
/-! ### One of them is answered -/
end Go.LK.Jb

namespace Go.LK
structure An where
  call : Int
  code : Int
def An.cells (e : An) : List Value := [.int .i64 e.call, .int .i64 e.code]
theorem An.one {l : List An} : ∀ a ∈ l, (An.cells a).all Value.oneCell' = true := fun _ _ => rfl
def encBo (b : Bool) : List Value := [.bool b]
theorem encBo.one {l : List Bool} : ∀ a ∈ l, (encBo a).all Value.oneCell' = true := fun _ _ => rfl
end Go.LK
namespace Go.LK.Jb
open Go Go.LK
/-- The place of a number in a row. -/
def IdxP (l : List Int) (x k : Int) : Prop := (k = -1 ∧ x ∉ l) ∨ ∃ n : Nat, k = n ∧ l[n]? = some x ∧ ∀ j, j < n → ∀ y, l[j]? = some y → y ≠ x
theorem idx_no {l : List Int} {x : Int} {k : Nat} (h : ∀ j, j < k → ∀ y, l[j]? = some y → y ≠ x) (hk : ¬ k < l.length) : IdxP l x (-1) := .inl ⟨rfl, fun hm => by
  obtain ⟨j, hj⟩ := List.mem_iff_getElem?.1 hm
  have := (List.getElem?_eq_some_iff.1 hj).1
  exact h j (by omega) x hj rfl⟩
theorem idx_yes {l : List Int} {x y : Int} {k : Nat} (h : ∀ j, j < k → ∀ y, l[j]? = some y → y ≠ x) (hy : l[k]? = some y) (he : x = y) : IdxP l x (k : Int) := .inr ⟨k, rfl, by rw [hy, he], h⟩
theorem idx_next {l : List Int} {x y : Int} {k : Nat} (h : ∀ j, j < k → ∀ y, l[j]? = some y → y ≠ x) (hy : l[k]? = some y) (he : ¬ x = y) : ∀ j, j < k + 1 → ∀ y, l[j]? = some y → y ≠ x := fun j hj z hz => by
  rcases Nat.lt_or_ge j k with h1 | h1
  · exact h j h1 z hz
  · have : j = k := by omega
    subst this
    rw [hy] at hz; cases hz
    exact fun h => he h.symm
theorem idx_mem {l : List Int} {x k : Int} (h : IdxP l x k) : 0 ≤ k ↔ x ∈ l := by
  rcases h with ⟨rfl, h⟩ | ⟨n, rfl, h, _⟩
  · exact ⟨fun h => by omega, fun h2 => absurd h2 h⟩
  · exact ⟨fun _ => List.mem_of_getElem? h, fun _ => by omega⟩
theorem has_next {l : List Int} {x y : Int} {k : Nat} (h : x ∉ l.take k) (hy : l[k]? = some y) (hn : ¬ y = x) : x ∉ l.take (k + 1) := by
  rw [List.take_add_one, hy, List.mem_append]
  simp only [Option.toList_some, List.mem_singleton, not_or]
  exact ⟨h, fun he => hn he.symm⟩
theorem has_hit {l : List Int} {x y : Int} {k : Nat} (hy : l[k]? = some y) (he : y = x) : x ∈ l := he ▸ List.mem_of_getElem? hy
theorem has_miss {l : List Int} {x : Int} {k : Nat} (h : x ∉ l.take k) (hk : ¬ k < l.length) : x ∉ l := by rwa [List.take_of_length_le (by omega)] at h
/-! ### Who was heard -/
def seen (l : List An) (k : Nat) (x : Int) : Bool := (l.take k).any fun a => decide (a.call = x)
def rem (needs : List Int) (l : List An) (k : Nat) : List Int := (rising needs).filter fun x => !seen l k x
section
variable {needs : List Int} {l : List An} {k q : Nat} {a : An} {x : Int}
end
end Go.LK.Jb

namespace Go.LK.Gr
open Go Go.LK
inductive Path (E : Nat → Nat → Bool) : Nat → Nat → Prop
  | one {i j : Nat} : E i j = true → Path E i j
  | step {i k j : Nat} : Path E i k → E k j = true → Path E i j
theorem Path.cons {E : Nat → Nat → Bool} {i k j : Nat} (h : E i k = true) (hp : Path E k j) : Path E i j := by
  induction hp with
  | one h2 => exact .step (.one h) h2
  | step _ h2 ih => exact .step ih h2
theorem Path.trans {E : Nat → Nat → Bool} {i k j : Nat} (h : Path E i k) (hp : Path E k j) : Path E i j := by
  induction hp with
  | one h2 => exact .step h h2
  | step _ h2 ih => exact .step ih h2
theorem Path.first {E : Nat → Nat → Bool} {i j : Nat} (h : Path E i j) : E i j = true ∨ ∃ k, E i k = true ∧ Path E k j := by
  induction h with
  | one h => exact .inl h
  | step h h2 ih =>
    rcases ih with h3 | ⟨k, h3, h4⟩
    · exact .inr ⟨_, h3, .one h2⟩
    · exact .inr ⟨k, h3, .step h4 h2⟩
/-- Does one of a row of rows of numbers call another one? -/
def e (g : List (List Int)) (i j : Nat) : Bool := decide (i < g.length) && decide (j < g.length) && (g.getD i []).contains (j : Int)
theorem e_lt {g : List (List Int)} {i j : Nat} (h : e g i j = true) : i < g.length ∧ j < g.length := by
  simp only [e, Bool.and_eq_true, decide_eq_true_eq] at h
  exact h.1
theorem path_lt {g : List (List Int)} {i j : Nat} (h : Path (e g) i j) : i < g.length ∧ j < g.length := by
  induction h with
  | one h => exact e_lt h
  | step _ h2 ih => exact ⟨ih.1, (e_lt h2).2⟩
/-- The whole of it. -/
noncomputable def reachP (g : List (List Int)) (i j : Nat) : Bool := @decide (Path (e g) i j) (Classical.propDecidable _)
theorem reachP_iff {g : List (List Int)} {i j : Nat} : reachP g i j = true ↔ Path (e g) i j := by
  unfold reachP; exact @decide_eq_true_iff _ (Classical.propDecidable _)
noncomputable def reachL (g : List (List Int)) (i : Nat) : List Int := ((List.range g.length).filter (reachP g i)).map fun (n : Nat) => (n : Int)
theorem mem_reachL {g : List (List Int)} {i : Nat} {x : Int} : x ∈ reachL g i ↔ ∃ j : Nat, x = j ∧ Path (e g) i j := by
  unfold reachL
  rw [List.mem_map]
  constructor
  · rintro ⟨j, hj, rfl⟩
    exact ⟨j, rfl, reachP_iff.1 (List.mem_filter.1 hj).2⟩
  · rintro ⟨j, rfl, hp⟩
    exact ⟨j, List.mem_filter.2 ⟨List.mem_range.2 (path_lt hp).2, reachP_iff.2 hp⟩, rfl⟩

/-! ### Marks, in rounds -/
def cntT (m : List Bool) : Nat := m.countP id
theorem cntT_le (m : List Bool) : cntT m ≤ m.length := List.countP_le_length
theorem cntT_mono : ∀ {a b : List Bool}, a.length = b.length → (∀ j : Nat, a[j]? = some true → b[j]? = some true) → cntT a ≤ cntT b
  | [], [], _, _ => Nat.le_refl _
  | x :: a, y :: b, hl, h => by
    have ih := cntT_mono (a := a) (b := b) (by simpa using hl) fun j hj => by simpa using h (j + 1) (by simpa using hj)
    have h0 := h 0
    unfold cntT at ih ⊢
    simp only [List.countP_cons]
    cases x <;> cases y <;> simp_all <;> omega
theorem cntT_lt : ∀ {a b : List Bool} {j : Nat}, a.length = b.length → (∀ j : Nat, a[j]? = some true → b[j]? = some true) → a[j]? = some false → b[j]? = some true → cntT a < cntT b
  | [], [], j, _, _, h, _ => by simp at h
  | x :: a, y :: b, 0, hl, h, h1, h2 => by
    have ih := cntT_mono (a := a) (b := b) (by simpa using hl) fun j hj => by simpa using h (j + 1) (by simpa using hj)
    simp at h1 h2
    subst h1; subst h2
    unfold cntT at ih ⊢
    simp only [List.countP_cons]
    simp; omega
  | x :: a, y :: b, j + 1, hl, h, h1, h2 => by
    have ih := cntT_lt (a := a) (b := b) (j := j) (by simpa using hl) (fun j hj => by simpa using h (j + 1) (by simpa using hj)) (by simpa using h1) (by simpa using h2)
    have h0 := h 0
    unfold cntT at ih ⊢
    simp only [List.countP_cons]
    cases x <;> cases y <;> simp_all <;> omega
abbrev T (m : List Bool) (j : Nat) : Prop := m[j]? = some true
structure RI (g : List (List Int)) (f : Nat) (bef now : List Bool) (t k : Nat) : Prop where
  len0 : bef.length = g.length
  len : now.length = g.length
  sub : ∀ j, T bef j → T now j
  sound : ∀ j, T now j → Path (e g) f j
  done : ∀ j, j < t → ∀ i, e g i j = true → (i = f ∨ T bef i) → T now j
  here : ∀ i, i < k → e g i t = true → (i = f ∨ T bef i) → T now t
def Closed (g : List (List Int)) (f : Nat) (m : List Bool) : Prop := ∀ i j, e g i j = true → (i = f ∨ T m i) → T m j
structure RO (g : List (List Int)) (f : Nat) (m : List Bool) (r : Nat) : Prop where
  len : m.length = g.length
  sound : ∀ j, T m j → Path (e g) f j
  fin : Closed g f m ∨ r ≤ cntT m
section
variable {g : List (List Int)} {f t k r : Nat} {bef now m : List Bool}
theorem RO.zero : RO g f (List.replicate g.length false) 0 := ⟨by simp, fun j hj => by
  unfold T at hj; rw [List.getElem?_replicate] at hj; split at hj <;> simp at hj, .inr (Nat.zero_le _)⟩
theorem RO.begin (h : RO g f m r) : RI g f m m 0 0 := ⟨h.len, h.len, fun _ h => h, h.sound, fun j hj => absurd hj (Nat.not_lt_zero _), fun i hi => absurd hi (Nat.not_lt_zero _)⟩
theorem RI.row (h : RI g f bef now t g.length) : RI g f bef now (t + 1) 0 := ⟨h.len0, h.len, h.sub, h.sound, fun j hj i he hi => by
  rcases Nat.lt_or_ge j t with h1 | h1
  · exact h.done j h1 i he hi
  · have : j = t := by omega
    subst this
    exact h.here i (e_lt he).1 he hi, fun i hi => absurd hi (Nat.not_lt_zero _)⟩
theorem RI.skip (h : RI g f bef now t k) (hn : ¬ (e g k t = true ∧ (k = f ∨ T now k))) : RI g f bef now t (k + 1) := ⟨h.len0, h.len, h.sub, h.sound, h.done, fun i hi he hb => by
  rcases Nat.lt_or_ge i k with h1 | h1
  · exact h.here i h1 he hb
  · have : i = k := by omega
    subst this
    exact absurd ⟨he, hb.imp id (h.sub _)⟩ hn⟩
theorem RI.mark (h : RI g f bef now t k) (he : e g k t = true) (hk : k = f ∨ T now k) : RI g f bef (now.set t true) t (k + 1) := by
  have hp : Path (e g) f t := by
    rcases hk with rfl | hk
    · exact .one he
    · exact .step (h.sound _ hk) he
  have ht : t < now.length := by rw [h.len]; exact (e_lt he).2
  have hs : ∀ j, T now j → T (now.set t true) j := fun j hj => by
    unfold T at hj ⊢
    rw [List.getElem?_set]
    split
    · first | rfl | rw [if_pos (by omega)]
    · exact hj
  refine ⟨h.len0, by simpa using h.len, fun j hj => hs j (h.sub j hj), fun j hj => ?_, fun j hj i h1 h2 => hs j (h.done j hj i h1 h2), fun i _ _ _ => ?_⟩
  · unfold T at hj
    rw [List.getElem?_set] at hj
    split at hj
    · rename_i hjt; subst hjt; exact hp
    · exact h.sound j hj
  · unfold T; rw [List.getElem?_set, if_pos rfl, if_pos ht]
theorem RI.over (h : RI g f bef now g.length 0) (h0 : RO g f bef r) : RO g f now (r + 1) := by
  refine ⟨h.len, h.sound, ?_⟩
  have hd : ∀ i j, e g i j = true → (i = f ∨ T bef i) → T now j := fun i j he hb => h.done j (e_lt he).2 i he hb
  by_cases hc : Closed g f bef
  · refine .inl fun i j he hi => ?_
    have hall : ∀ j, Path (e g) f j → T bef j := fun j hp => by
      induction hp with
      | one he => exact hc _ _ he (.inl rfl)
      | step _ he ih => exact hc _ _ he (.inr ih)
    refine hd i j he (hi.imp id fun hi => hall _ (h.sound _ hi))
  · refine .inr ?_
    have : ∃ i j, e g i j = true ∧ (i = f ∨ T bef i) ∧ ¬ T bef j := Classical.byContradiction fun hn => hc fun i j he hi => Classical.byContradiction fun hj => hn ⟨i, j, he, hi, hj⟩
    obtain ⟨i, j, he, hi, hj⟩ := this
    have hjl : j < bef.length := by rw [h.len0]; exact (e_lt he).2
    have hf : bef[j]? = some false := by
      rw [List.getElem?_eq_getElem hjl]
      unfold T at hj
      rw [List.getElem?_eq_getElem hjl] at hj
      cases hb : bef[j] <;> simp_all
    have hlt := cntT_lt (a := bef) (b := now) (j := j) (by rw [h.len0, h.len]) h.sub hf (hd i j he hi)
    rcases h0.fin with h1 | h1
    · exact absurd h1 hc
    · omega
theorem RO.last (h : RO g f m g.length) (j : Nat) : T m j ↔ Path (e g) f j := by
  refine ⟨h.sound j, fun hp => ?_⟩
  have hc : Closed g f m := by
    rcases h.fin with h1 | h1
    · exact h1
    · intro i j he _
      have hjl : j < m.length := by rw [h.len]; exact (e_lt he).2
      by_cases hj : T m j
      · exact hj
      · exfalso
        have hf : m[j]? = some false := by
          rw [List.getElem?_eq_getElem hjl]
          unfold T at hj
          rw [List.getElem?_eq_getElem hjl] at hj
          cases hb : m[j] <;> simp_all
        have h2 := cntT_lt (a := m) (b := List.replicate m.length true) (j := j) (by simp) (fun i hi => by
          have : i < m.length := (List.getElem?_eq_some_iff.1 hi).1
          rw [List.getElem?_replicate, if_pos this]) hf (by rw [List.getElem?_replicate, if_pos hjl])
        have h3 := cntT_le (List.replicate m.length true)
        rw [List.length_replicate] at h3
        have h4 := h.len
        omega
  induction hp with
  | one he => exact hc _ _ he (.inl rfl)
  | step _ he ih => exact hc _ _ he (.inr ih)
/-- The row of those that are marked. -/
def marked (m : List Bool) (k : Nat) : List Int := ((List.range k).filter fun j => m.getD j false).map fun (n : Nat) => (n : Int)
theorem marked_yes (h : m[k]? = some true) : marked m (k + 1) = marked m k ++ [(k : Int)] := by
  have : m.getD k false = true := by rw [List.getD_eq_getElem?_getD, h]; rfl
  unfold marked; rw [List.range_succ, List.filter_append, List.map_append, List.filter_cons, if_pos this]; rfl
theorem marked_no (h : m[k]? = some false) : marked m (k + 1) = marked m k := by
  have : ¬ m.getD k false = true := by rw [List.getD_eq_getElem?_getD, h]; simp
  unfold marked; rw [List.range_succ, List.filter_append, List.map_append, List.filter_cons, if_neg this]; simp
theorem RO.row (h : RO g f m g.length) : marked m g.length = reachL g f := by
  unfold marked reachL
  congr 1
  refine List.filter_congr fun j hj => ?_
  have h1 := h.last j
  rw [Bool.eq_iff_iff, reachP_iff, ← h1]
  unfold T
  rw [List.getD_eq_getElem?_getD]
  cases hm : m[j]? with
  | none => simp
  | some b => simp
end

/-! ### Rows in which callers stand ahead -/
/-- How many callers of one do not stand in a row. -/
def cnt (g : List (List Int)) (o : List Nat) (n : Nat) : Nat := ((List.range g.length).filter fun c => e g c n && !o.contains c).length
def pick (g : List (List Int)) (o : List Nat) : Option Nat := (List.range g.length).find? fun n => !o.contains n && cnt g o n == 0
def ordN (g : List (List Int)) : Nat → Option (List Nat)
  | 0 => some []
  | k + 1 => (ordN g k).bind fun o => (pick g o).map fun n => o ++ [n]
section
variable {g : List (List Int)} {o : List Nat} {k n : Nat}
theorem cnt_zero : cnt g o n = 0 ↔ ∀ c, e g c n = true → c ∈ o := by
  unfold cnt
  rw [List.length_eq_zero_iff, List.filter_eq_nil_iff]
  constructor
  · intro h c hc
    have := h c (List.mem_range.2 (e_lt hc).1)
    simpa [hc] using this
  · intro h c _ hc
    simp only [Bool.and_eq_true, Bool.not_eq_true', List.contains_eq_mem, decide_eq_false_iff_not] at hc
    exact hc.2 (h c hc.1)
theorem pick_some (h : pick g o = some n) : n < g.length ∧ n ∉ o ∧ ∀ c, e g c n = true → c ∈ o := by
  have h1 := List.find?_some h
  have h2 := List.mem_of_find?_eq_some h
  simp only [Bool.and_eq_true, Bool.not_eq_true', List.contains_eq_mem, decide_eq_false_iff_not, beq_iff_eq] at h1
  exact ⟨List.mem_range.1 h2, h1.1, cnt_zero.1 h1.2⟩
theorem pick_none (h : pick g o = none) (hn : n < g.length) (ho : n ∉ o) : ∃ c, e g c n = true ∧ c ∉ o := by
  have h1 := List.find?_eq_none.1 h n (List.mem_range.2 hn)
  simp only [Bool.and_eq_true, Bool.not_eq_true', List.contains_eq_mem, decide_eq_false_iff_not, beq_iff_eq, not_and] at h1
  have h2 : ¬ cnt g o n = 0 := h1 ho
  rw [cnt_zero] at h2
  exact Classical.byContradiction fun hc => h2 fun c hc' => Classical.byContradiction fun h3 => hc ⟨c, hc', h3⟩
/-- The first place with a 0 of the row that tells, of those outside, how many callers there are. -/
theorem pick_at (hn : n < g.length) (ho : n ∉ o) (h0 : cnt g o n = 0) (hl : ∀ j, j < n → j ∈ o ∨ cnt g o j ≠ 0) : pick g o = some n := by
  unfold pick
  rw [List.find?_range_eq_some]
  refine ⟨by simp [ho, h0], by simpa using hn, fun j hj => ?_⟩
  rcases hl j hj with h | h
  · simp [h]
  · simp [h]
theorem pick_stop (hl : ∀ j, j < g.length → j ∈ o ∨ cnt g o j ≠ 0) : pick g o = none := by
  unfold pick
  rw [List.find?_eq_none]
  intro j hj
  rcases hl j (List.mem_range.1 hj) with h | h
  · simp [h]
  · simp [h]
theorem ord_step (h : ordN g (k + 1) = some o) : ∃ o' n, ordN g k = some o' ∧ pick g o' = some n ∧ o = o' ++ [n] := by
  simp only [ordN, Option.bind_eq_some_iff, Option.map_eq_some_iff] at h
  obtain ⟨o', h1, n, h2, rfl⟩ := h
  exact ⟨o', n, h1, h2, rfl⟩
theorem ord_none (h : ordN g k = none) : ∀ m, k ≤ m → ordN g m = none := by
  intro m
  induction m with
  | zero => intro hm; have : k = 0 := by omega
            subst this; exact h
  | succ m ih =>
    intro hm
    rcases Nat.lt_or_ge m k with h1 | h1
    · have : k = m + 1 := by omega
      subst this; exact h
    · simp [ordN, ih h1]
theorem ord_len : ∀ {k : Nat} {o : List Nat}, ordN g k = some o → o.length = k
  | 0, o, h => by cases h; rfl
  | k + 1, o, h => by
    obtain ⟨o', n, h1, h2, rfl⟩ := ord_step h
    simp [ord_len h1]
/-- Callers of those that stand in the row stand in it. -/
theorem ord_closed : ∀ {k : Nat} {o : List Nat}, ordN g k = some o → ∀ n ∈ o, ∀ c, e g c n = true → c ∈ o
  | 0, o, h => by cases h; simp
  | k + 1, o, h => by
    obtain ⟨o', p, h1, h2, rfl⟩ := ord_step h
    intro n hn c hc
    rcases List.mem_append.1 hn with hn | hn
    · exact List.mem_append.2 (.inl (ord_closed h1 n hn c hc))
    · rw [List.mem_singleton.1 hn] at hc
      exact List.mem_append.2 (.inl ((pick_some h2).2.2 c hc))
theorem ord_path (h : ordN g k = some o) {i j : Nat} (hp : Path (e g) i j) : j ∈ o → i ∈ o := by
  induction hp with
  | one he => intro hj; exact ord_closed h _ hj _ he
  | step _ he ih => intro hj; exact ih (ord_closed h _ hj _ he)
theorem ord_round : ∀ {k : Nat} {o : List Nat}, ordN g k = some o → ∀ n ∈ o, ¬ Path (e g) n n
  | 0, o, h => by cases h; simp
  | k + 1, o, h => by
    obtain ⟨o', p, h1, h2, rfl⟩ := ord_step h
    intro n hn
    rcases List.mem_append.1 hn with hn | hn
    · exact ord_round h1 n hn
    · rw [List.mem_singleton.1 hn]
      obtain ⟨_, hp, hc⟩ := pick_some h2
      intro hpp
      cases hpp with
      | one he => exact hp (hc _ he)
      | step h3 he => exact hp (ord_path h1 h3 (hc _ he))
/-- How many do not stand in it. -/
def out (g : List (List Int)) (o : List Nat) : List Nat := (List.range g.length).filter fun n => !o.contains n
theorem out_step {p : Nat} (hp : p < g.length) (ho : p ∉ o) : (out g (o ++ [p])).length + 1 = (out g o).length := by
  have h1 : out g (o ++ [p]) = (out g o).filter fun n => decide (n ≠ p) := by
    unfold out
    rw [List.filter_filter]
    refine List.filter_congr fun n _ => ?_
    by_cases h : n ∈ o <;> by_cases h2 : n = p <;> simp [h, h2]
  have h2 : p ∈ out g o := List.mem_filter.2 ⟨List.mem_range.2 hp, by simp [ho]⟩
  have h3 : (out g o).Nodup := List.Pairwise.filter _ List.nodup_range
  rw [h1]
  clear h1
  generalize out g o = l at h2 h3
  induction l with
  | nil => simp at h2
  | cons x l ih =>
    have h4 := List.nodup_cons.1 h3
    by_cases hx : x = p
    · subst hx
      have : l.filter (fun n => decide (n ≠ x)) = l := List.filter_eq_self.2 fun y hy => by
        have : y ≠ x := fun he => h4.1 (he ▸ hy)
        simp [this]
      simp only [ne_eq, decide_not] at this
      simp [this]
    · have hm : p ∈ l := by
        rcases List.mem_cons.1 h2 with h | h
        · exact absurd h.symm hx
        · exact h
      have := ih hm h4.2
      simp [hx]
      simpa using this
theorem out_len : ∀ {k : Nat} {o : List Nat}, ordN g k = some o → (out g o).length + k = g.length
  | 0, o, h => by
    cases h
    have : (List.range g.length).filter (fun n => !([] : List Nat).contains n) = List.range g.length := List.filter_eq_self.2 fun _ _ => rfl
    simp only [out, this, List.length_range, Nat.add_zero]
  | k + 1, o, h => by
    obtain ⟨o', p, h1, h2, rfl⟩ := ord_step h
    have := out_len h1
    have := out_step (pick_some h2).1 (pick_some h2).2.1
    omega
theorem ord_all (h : ordN g g.length = some o) : ∀ n, n < g.length → n ∈ o := by
  have h1 := out_len h
  have h2 : out g o = [] := List.eq_nil_of_length_eq_zero (by omega)
  intro n hn
  have := List.filter_eq_nil_iff.1 h2 n (List.mem_range.2 hn)
  simpa using this
/-- How many come ahead of one. -/
noncomputable def anc (g : List (List Int)) (n : Nat) : Nat := ((List.range g.length).filter fun i => reachP g i n).length
theorem filter_lt {p q : Nat → Bool} {l : List Nat} (hs : ∀ x, p x = true → q x = true) {y : Nat} (hy : y ∈ l) (h1 : p y = false) (h2 : q y = true) : (l.filter p).length < (l.filter q).length := by
  induction l with
  | nil => simp at hy
  | cons x l ih =>
    have hle : (l.filter p).length ≤ (l.filter q).length := by
      clear ih hy
      induction l with
      | nil => simp
      | cons z l ih =>
        have := hs z
        cases hp : p z <;> cases hq : q z <;> simp_all <;> omega
    rcases List.mem_cons.1 hy with rfl | hy
    · simp [h1, h2]; omega
    · have := ih hy
      have := hs x
      cases hp : p x <;> cases hq : q x <;> simp_all <;> omega
theorem anc_lt (hc : ∀ i, ¬ Path (e g) i i) {c n : Nat} (h : e g c n = true) : anc g c < anc g n := by
  unfold anc
  refine filter_lt (y := c) (fun i hi => reachP_iff.2 (.step (reachP_iff.1 hi) h)) (List.mem_range.2 (e_lt h).1) ?_ (reachP_iff.2 (.one h))
  cases hb : reachP g c c with
  | false => rfl
  | true => exact absurd (reachP_iff.1 hb) (hc c)
theorem min_of {f : Nat → Nat} : ∀ {l : List Nat}, l ≠ [] → ∃ x ∈ l, ∀ y ∈ l, f x ≤ f y
  | [x], _ => ⟨x, by simp, by simp⟩
  | x :: z :: l, _ => by
    obtain ⟨m, hm, hl⟩ := min_of (f := f) (l := z :: l) (by simp)
    rcases Nat.le_total (f x) (f m) with h | h
    · exact ⟨x, by simp, fun y hy => by
        rcases List.mem_cons.1 hy with rfl | hy
        · exact Nat.le_refl _
        · exact Nat.le_trans h (hl y hy)⟩
    · exact ⟨m, List.mem_cons_of_mem _ hm, fun y hy => by
        rcases List.mem_cons.1 hy with rfl | hy
        · exact h
        · exact hl y hy⟩
theorem pick_is (hc : ∀ i, ¬ Path (e g) i i) (ho : out g o ≠ []) : ∃ n, pick g o = some n := by
  cases hp : pick g o with
  | some n => exact ⟨n, rfl⟩
  | none =>
    exfalso
    obtain ⟨n, hn, hmin⟩ := min_of (f := anc g) ho
    have h1 := List.mem_filter.1 hn
    obtain ⟨c, h2, h3⟩ := pick_none hp (List.mem_range.1 h1.1) (by simpa using h1.2)
    have := hmin c (List.mem_filter.2 ⟨List.mem_range.2 (e_lt h2).1, by simpa using h3⟩)
    have := anc_lt hc h2
    omega
theorem ord_is (hc : ∀ i, ¬ Path (e g) i i) : ∀ k, k ≤ g.length → ∃ o, ordN g k = some o
  | 0, _ => ⟨[], rfl⟩
  | k + 1, hk => by
    obtain ⟨o, ho⟩ := ord_is hc k (by omega)
    have h1 := out_len ho
    obtain ⟨n, hn⟩ := pick_is (o := o) hc (fun h => by rw [h] at h1; simp at h1; omega)
    exact ⟨o ++ [n], by simp [ordN, ho, hn]⟩
/-- A row there is just where no calls go round. -/
theorem ord_iff : (∃ o, ordN g g.length = some o) ↔ ∀ i, i < g.length → ¬ Path (e g) i i := by
  constructor
  · rintro ⟨o, ho⟩ i hi
    exact ord_round ho i (ord_all ho i hi)
  · intro h
    exact ord_is (fun i hp => h i (path_lt hp).1 hp) _ (Nat.le_refl _)
end
/-- What a check of it comes to. -/
noncomputable def loops (g : List (List Int)) : Int := @ite _ (∃ o, ordN g g.length = some o) (Classical.propDecidable _) 0 11
theorem loops_yes {g : List (List Int)} {o : List Nat} (h : ordN g g.length = some o) : loops g = 0 := by unfold loops; rw [if_pos ⟨o, h⟩]
theorem loops_no {g : List (List Int)} (h : ordN g g.length = none) : loops g = 11 := by
  unfold loops; rw [if_neg]; rintro ⟨o, ho⟩; rw [h] at ho; cases ho
theorem loops_round {g : List (List Int)} {i : Nat} (h : Path (e g) i i) : loops g = 11 := by
  refine loops_no ?_
  cases ho : ordN g g.length with
  | none => rfl
  | some o => exact absurd h (ord_iff.1 ⟨o, ho⟩ i (path_lt h).1)
theorem loops_none {g : List (List Int)} (h : ∀ i, i < g.length → ¬ Path (e g) i i) : loops g = 0 := by
  obtain ⟨o, ho⟩ := ord_iff.2 h
  exact loops_yes ho
end Go.LK.Gr

namespace Go.LK
open Go Go.RowKit
/-- A service: its numbers, the value of its slice of calls, and the calls. -/
structure Sg where
  x0 : Int
  x1 : Int
  x2 : Int
  x3 : Int
  x4 : Int
  x5 : Int
  x6 : Int
  x7 : Int
  x8 : Int
  x9 : Int
  x10 : Int
  x11 : Int
  x12 : Int
  cv : Value
  cl : List Cl
  ok : cv.oneCell' = true
def Sg.nums (s : Sg) : List Int := [s.x0, s.x1, s.x2, s.x3, s.x4, s.x5, s.x6, s.x7, s.x8, s.x9, s.x10, s.x11, s.x12]
def Sg.cells (s : Sg) : List Value := [.int .i64 s.x0, .int .i64 s.x1, .int .i64 s.x2, .int .i64 s.x3, .int .i64 s.x4, .int .i64 s.x5, .int .i64 s.x6, .int .i64 s.x7, .int .i64 s.x8, .int .i64 s.x9, .int .i64 s.x10, .int .i64 s.x11, .int .i64 s.x12, s.cv]
theorem Sg.one {l : List Sg} : ∀ a ∈ l, (Sg.cells a).all Value.oneCell' = true := fun a _ => by
  simp only [Sg.cells, List.all_cons, List.all_nil, a.ok]; rfl
def Sg.row (T : Nat) (s : Sg) : Sp := LK.row s.cv T 4 (s.cl.map Cl.cells)
def Sg.rd (s : Sg) : Sp := LK.rd s.cv 4 (s.cl.map Cl.cells)
theorem sg_ros {T : Nat} {l : List Sg} : ∀ w, (bun (l.map (Sg.row T))).holds w → (ros (l.map Sg.rd)).holds w ∧ ∀ k ∈ (ros (l.map Sg.rd)).foot, k ∈ (bun (l.map (Sg.row T))).foot := bun_ros fun _ _ => row_rd
theorem to_at {l : List Cl} {k : Nat} {c : Cl} (h : l[k]? = some c) : (l.map Cl.to)[k]? = some c.to := by rw [List.getElem?_map, h]; rfl
/-- A row of numbers, named by its value. -/
structure Lz where
  v : Value
  l : List Int
def Lz.cells (x : Lz) : List Value := [x.v]
def Lz.rd (x : Lz) : Sp := LK.rd x.v 1 (x.l.map encZ)
abbrev gOf (l : List Sg) : List (List Int) := l.map fun s => s.cl.map Cl.to
theorem gOf_len {l : List Sg} : (gOf l).length = l.length := List.length_map _
theorem gOf_at {l : List Sg} {i : Nat} {s : Sg} (h : l[i]? = some s) : (gOf l)[i]? = some (s.cl.map Cl.to) := by unfold gOf; rw [List.getElem?_map, h]; rfl
end Go.LK
namespace Go.LK.Gr
open Go Go.LK
section
variable {g : List (List Int)} {cl : List Int} {f x t : Int} {i j k q n p : Nat} {o : List Nat}
/-! ### Whom one calls -/
def calledF (n : Nat) (o : List Int) (t : Int) : List Int := if 0 ≤ t ∧ t < (n : Int) ∧ t ∉ o then o ++ [t] else o
def calledK (n : Nat) (cl : List Int) (k : Nat) : List Int := (cl.take k).foldl (calledF n) []
def called (g : List (List Int)) (f : Int) : List Int := if f < 0 ∨ (g.length : Int) ≤ f then [] else (g.getD f.toNat []).foldl (calledF g.length) []
theorem called_out (h : f < 0 ∨ (g.length : Int) ≤ f) : called g f = [] := if_pos h
theorem called_in (h0 : ¬ f < 0) (h1 : ¬ (g.length : Int) ≤ f) (hx : g[f.toNat]? = some cl) (hk : ¬ k < cl.length) : calledK g.length cl k = called g f := by
  unfold called calledK
  rw [if_neg (by omega), List.take_of_length_le (by omega), List.getD_eq_getElem?_getD, hx]; rfl
theorem calledK_yes (hx : cl[k]? = some t) (h0 : 0 ≤ t) (h1 : t < (n : Int)) (h2 : t ∉ calledK n cl k) : calledK n cl (k + 1) = calledK n cl k ++ [t] := by
  unfold calledK at h2 ⊢
  rw [List.take_add_one, hx, List.foldl_append]
  exact if_pos ⟨h0, h1, h2⟩
theorem calledK_no (hx : cl[k]? = some t) (h : ¬ (0 ≤ t ∧ t < (n : Int) ∧ t ∉ calledK n cl k)) : calledK n cl (k + 1) = calledK n cl k := by
  unfold calledK at h ⊢
  rw [List.take_add_one, hx, List.foldl_append]
  exact if_neg h
theorem mem_fold : ∀ {cl o : List Int}, x ∈ cl.foldl (calledF n) o ↔ x ∈ o ∨ (x ∈ cl ∧ 0 ≤ x ∧ x < (n : Int))
  | [], o => by simp
  | t :: cl, o => by
    rw [List.foldl_cons, mem_fold]
    unfold calledF
    by_cases h : 0 ≤ t ∧ t < (n : Int) ∧ t ∉ o
    · rw [if_pos h, List.mem_append, List.mem_singleton, List.mem_cons]
      constructor
      · rintro ((h1 | h1) | h1)
        · exact .inl h1
        · subst h1; exact .inr ⟨.inl rfl, h.1, h.2.1⟩
        · exact .inr ⟨.inr h1.1, h1.2⟩
      · rintro (h1 | ⟨h1 | h1, h2⟩)
        · exact .inl (.inl h1)
        · exact .inl (.inr h1)
        · exact .inr ⟨h1, h2⟩
    · rw [if_neg h, List.mem_cons]
      constructor
      · rintro (h1 | h1)
        · exact .inl h1
        · exact .inr ⟨.inr h1.1, h1.2⟩
      · rintro (h1 | ⟨h1 | h1, h2⟩)
        · exact .inl h1
        · subst h1
          exact .inl (Classical.byContradiction fun hn => h ⟨h2.1, h2.2, hn⟩)
        · exact .inr ⟨h1, h2⟩
theorem nodup_fold : ∀ {cl o : List Int}, o.Nodup → (cl.foldl (calledF n) o).Nodup
  | [], _, h => h
  | t :: cl, o, h => by
    rw [List.foldl_cons]
    refine nodup_fold ?_
    unfold calledF
    split
    · rename_i hc
      exact List.nodup_append.2 ⟨h, by simp, fun a ha b hb => by simp at hb; subst hb; exact fun e => hc.2.2 (e ▸ ha)⟩
    · exact h
theorem mem_called : x ∈ called g f ↔ ∃ i j : Nat, f = i ∧ x = j ∧ e g i j = true := by
  unfold called
  by_cases h : f < 0 ∨ (g.length : Int) ≤ f
  · rw [if_pos h]
    constructor
    · intro hx; simp at hx
    · rintro ⟨i, j, rfl, _, he⟩
      have := (e_lt he).1
      omega
  · rw [if_neg h, mem_fold]
    simp only [List.not_mem_nil, false_or]
    constructor
    · rintro ⟨h1, h2, h3⟩
      refine ⟨f.toNat, x.toNat, by omega, by omega, ?_⟩
      unfold e
      simp only [Bool.and_eq_true, decide_eq_true_eq, List.contains_eq_mem]
      exact ⟨⟨by omega, by omega⟩, by rw [show ((x.toNat : Nat) : Int) = x from by omega]; exact h1⟩
    · rintro ⟨i, j, rfl, rfl, he⟩
      have hl := e_lt he
      unfold e at he
      simp only [Bool.and_eq_true, decide_eq_true_eq, List.contains_eq_mem] at he
      exact ⟨by simpa using he.2, by omega, by omega⟩
theorem mem_called_nat : (j : Int) ∈ called g (i : Int) ↔ e g i j = true := by
  rw [mem_called]
  constructor
  · rintro ⟨a, b, h1, h2, h3⟩
    have ha : a = i := by omega
    have hb : b = j := by omega
    rw [← ha, ← hb]; exact h3
  · exact fun h => ⟨i, j, rfl, rfl, h⟩
theorem called_nodup : (called g f).Nodup := by
  unfold called; split
  · simp
  · exact nodup_fold (by simp)
theorem called_bnd (h : (called g f)[q]? = some t) : ∃ j : Nat, t = j ∧ j < g.length := by
  obtain ⟨i, j, _, h2, h3⟩ := mem_called.1 (List.mem_of_getElem? h)
  exact ⟨j, h2, (e_lt h3).2⟩
theorem called_len : (called g f).length ≤ g.length := by
  have := nodup_len (ks := called g f) (l := (List.range g.length).map fun (n : Nat) => (n : Int)) called_nodup fun k hk => by
    obtain ⟨i, j, _, rfl, h⟩ := mem_called.1 hk
    exact List.mem_map.2 ⟨j, List.mem_range.2 (e_lt h).2, rfl⟩
  simpa using this
/-- Does one call another one? -/
def calls (g : List (List Int)) (a b : Int) : Bool := decide (0 ≤ a) && decide (a < (g.length : Int)) && decide (0 ≤ b) && decide (b < (g.length : Int)) && (g.getD a.toNat []).contains b
theorem calls_e : calls g (i : Int) (j : Int) = e g i j := by
  unfold calls e
  rw [Bool.eq_iff_iff]
  simp only [Bool.and_eq_true, decide_eq_true_eq, Int.toNat_natCast]
  constructor
  · rintro ⟨⟨⟨⟨_, h1⟩, _⟩, h2⟩, h3⟩
    exact ⟨⟨by omega, by omega⟩, h3⟩
  · rintro ⟨⟨h1, h2⟩, h3⟩
    exact ⟨⟨⟨⟨by omega, by omega⟩, by omega⟩, by omega⟩, h3⟩
theorem calls_no {a b : Int} (h : a < 0 ∨ (g.length : Int) ≤ a ∨ b < 0 ∨ (g.length : Int) ≤ b) : calls g a b = false := by
  rw [Bool.eq_false_iff]
  intro hc
  unfold calls at hc
  simp only [Bool.and_eq_true, decide_eq_true_eq] at hc
  omega
theorem calls_in {a b : Int} (h : ¬ (a < 0 ∨ (g.length : Int) ≤ a ∨ b < 0 ∨ (g.length : Int) ≤ b)) (hx : g[a.toNat]? = some cl) : calls g a b = decide (b ∈ cl) := by
  unfold calls
  rw [Bool.eq_iff_iff]
  simp only [Bool.and_eq_true, decide_eq_true_eq, List.contains_eq_mem, List.getD_eq_getElem?_getD, hx, Option.getD_some]
  constructor
  · exact fun h => h.2
  · exact fun h' => ⟨by omega, h'⟩
/-- Who calls one. -/
def callersK (g : List (List Int)) (b : Int) (k : Nat) : List Int := ((List.range k).filter fun (i : Nat) => calls g (i : Int) b).map fun (n : Nat) => (n : Int)
def callers (g : List (List Int)) (b : Int) : List Int := callersK g b g.length
/-! ### Rows by their places -/
def rowN (n : Nat) (F : Nat → Int) : List Int := (List.range n).map F
theorem rowN_len {F : Nat → Int} : (rowN n F).length = n := by simp [rowN]
theorem rowN_get {F : Nat → Int} (h : j < n) : (rowN n F)[j]? = some (F j) := by simp [rowN, h]
theorem rowN_ext {F G : Nat → Int} (h : ∀ j, j < n → F j = G j) : rowN n F = rowN n G := List.map_congr_left fun j hj => h j (List.mem_range.1 hj)
theorem rowN_set {F : Nat → Int} : (rowN n F).set j x = rowN n fun i => if i = j then x else F i := by
  apply List.ext_getElem?
  intro i
  rw [List.getElem?_set]
  unfold rowN
  simp only [List.getElem?_map, List.length_map, List.length_range]
  by_cases hi : i < n
  · by_cases hj : j = i
    · subst hj; simp [hi]
    · have : ¬ i = j := fun e => hj e.symm
      simp [hj, hi, this]
  · by_cases hj : j = i
    · subst hj; simp [hi]
    · simp [hj, hi]
/-! ### How many callers -/
def cw (g : List (List Int)) (i j : Nat) : Nat := ((List.range i).filter fun c => e g c j).length
def waitQ (g : List (List Int)) (i q : Nat) : List Int := rowN g.length fun j => (cw g i j : Int) + if (j : Int) ∈ (called g (i : Int)).take q then 1 else 0
theorem cw_succ : cw g (i + 1) j = cw g i j + if e g i j then 1 else 0 := by
  unfold cw; rw [List.range_succ, List.filter_append, List.length_append]
  cases h : e g i j <;> simp [h]
theorem waitQ_zero : List.replicate g.length 0 = waitQ g 0 0 := by
  refine (List.eq_replicate_iff.2 ⟨by simp [waitQ, rowN], fun b hb => ?_⟩).symm
  unfold waitQ rowN at hb
  obtain ⟨j, _, rfl⟩ := List.mem_map.1 hb
  simp [cw]
end
end Go.LK.Gr

namespace Go.LK.Gr
open Go Go.LK
section
variable {g : List (List Int)} {t x : Int} {i j k q n p m : Nat} {o : List Nat}
theorem take_next {l : List Int} (hn : l.Nodup) (hq : l[q]? = some t) : t ∉ l.take q ∧ ∀ y, y ∈ l.take (q + 1) ↔ y ∈ l.take q ∨ y = t := by
  constructor
  · intro h
    obtain ⟨i, hi⟩ := List.mem_iff_getElem?.1 h
    rw [List.getElem?_take] at hi
    split at hi
    · rename_i hlt
      have h1 := (List.getElem?_eq_some_iff.1 hi)
      have h2 := (List.getElem?_eq_some_iff.1 hq)
      obtain ⟨a, ha⟩ := h1
      obtain ⟨b, hb⟩ := h2
      have := List.pairwise_iff_getElem.1 hn i q a b hlt
      exact this (ha.trans hb.symm)
    · cases hi
  · intro y
    rw [List.take_add_one, hq, List.mem_append]; simp
theorem waitQ_next (hq : (called g (i : Int))[q]? = some t) (hx : (waitQ g i q)[t.toNat]? = some x) : (waitQ g i q).set t.toNat (x + 1) = waitQ g i (q + 1) := by
  obtain ⟨j, rfl, hj⟩ := called_bnd hq
  rw [Int.toNat_natCast] at hx ⊢
  obtain ⟨h1, h2⟩ := take_next called_nodup hq
  unfold waitQ at hx ⊢
  rw [rowN_get hj] at hx
  rw [rowN_set]
  refine rowN_ext fun i' _ => ?_
  by_cases he : i' = j
  · subst he
    rw [if_pos rfl, ← Option.some.inj hx, if_neg h1, if_pos ((h2 _).2 (.inr rfl))]; omega
  · rw [if_neg he]
    have hne : ¬ (i' : Int) = j := by omega
    have : (i' : Int) ∈ (called g (i : Int)).take (q + 1) ↔ (i' : Int) ∈ (called g (i : Int)).take q := by rw [h2]; simp [hne]
    simp only [this]
theorem waitQ_row (h : (called g (i : Int)).length ≤ q) : waitQ g i q = waitQ g (i + 1) 0 := by
  unfold waitQ
  refine rowN_ext fun j _ => ?_
  rw [List.take_of_length_le h, cw_succ]
  simp only [mem_called_nat, List.take_zero, List.not_mem_nil, if_false]
  split <;> simp_all
def leftL (g : List (List Int)) (o : List Nat) : List Int := rowN g.length fun j => if j ∈ o then -1 else (cnt g o j : Int)
theorem waitQ_all : waitQ g g.length 0 = leftL g [] := by
  unfold waitQ leftL
  refine rowN_ext fun j _ => ?_
  simp only [List.take_zero, List.not_mem_nil, if_false, cw, cnt]
  simp
theorem cw_le : cw g i j ≤ i := by unfold cw; exact Nat.le_trans (List.length_filter_le _ _) (by simp)
theorem cnt_le : cnt g o j ≤ g.length := by unfold cnt; exact Nat.le_trans (List.length_filter_le _ _) (by simp)
theorem waitQ_len : (waitQ g i q).length = g.length := rowN_len
theorem leftL_len : (leftL g o).length = g.length := rowN_len
theorem waitQ_bnd (hx : (waitQ g i q)[m]? = some x) : 0 ≤ x ∧ x ≤ i + 1 := by
  have hm : m < g.length := by have := (List.getElem?_eq_some_iff.1 hx).1; rwa [waitQ_len] at this
  unfold waitQ at hx
  rw [rowN_get hm] at hx
  have := cw_le (g := g) (i := i) (j := m)
  have h2 := Option.some.inj hx
  split at h2 <;> omega
def leftQ (g : List (List Int)) (o : List Nat) (p q : Nat) : List Int := rowN g.length fun j => if j ∈ o ++ [p] then -1 else (cnt g o j : Int) - if (j : Int) ∈ (called g (p : Int)).take q then 1 else 0
theorem leftQ_len : (leftQ g o p q).length = g.length := rowN_len
theorem leftQ_bnd (hx : (leftQ g o p q)[m]? = some x) : -1 ≤ x ∧ x ≤ g.length := by
  have hm : m < g.length := by have := (List.getElem?_eq_some_iff.1 hx).1; rwa [leftQ_len] at this
  unfold leftQ at hx
  rw [rowN_get hm] at hx
  have := cnt_le (g := g) (o := o) (j := m)
  have h2 := Option.some.inj hx
  split at h2
  · omega
  · split at h2 <;> omega
theorem leftQ_zero : (leftL g o).set p (-1) = leftQ g o p 0 := by
  unfold leftL leftQ
  rw [rowN_set]
  refine rowN_ext fun j _ => ?_
  by_cases h : j = p
  · simp [h]
  · by_cases h2 : j ∈ o <;> simp [h, h2]
theorem leftQ_next (ho : ordN g k = some o) (hp : pick g o = some p) (hq : (called g (p : Int))[q]? = some t) (hx : (leftQ g o p q)[t.toNat]? = some x) : (leftQ g o p q).set t.toNat (x - 1) = leftQ g o p (q + 1) := by
  obtain ⟨a, j, ha, hj1, he⟩ := mem_called.1 (List.mem_of_getElem? hq)
  have hap : a = p := by omega
  subst hap hj1
  have hj := (e_lt he).2
  rw [Int.toNat_natCast] at hx ⊢
  obtain ⟨h1, h2⟩ := take_next called_nodup hq
  obtain ⟨hp1, hp2, hp3⟩ := pick_some hp
  have hjo : j ∉ o ++ [a] := by
    intro hin
    rcases List.mem_append.1 hin with hin | hin
    · exact hp2 (ord_closed ho j hin a he)
    · simp at hin; subst hin
      exact hp2 (hp3 _ he)
  unfold leftQ at hx ⊢
  rw [rowN_get hj, if_neg hjo, if_neg h1] at hx
  rw [rowN_set]
  refine rowN_ext fun i' _ => ?_
  by_cases hee : i' = j
  · subst hee
    rw [if_pos rfl, ← Option.some.inj hx, if_neg hjo, if_pos ((h2 _).2 (.inr rfl))]; omega
  · rw [if_neg hee]
    have hne : ¬ (i' : Int) = j := by omega
    have : (i' : Int) ∈ (called g (a : Int)).take (q + 1) ↔ (i' : Int) ∈ (called g (a : Int)).take q := by rw [h2]; simp [hne]
    simp only [this]
theorem count_one {f : Nat → Bool} : ∀ {l : List Nat}, l.Nodup → p ∈ l → (l.filter f).length = (l.filter fun c => f c && !(c == p)).length + if f p then 1 else 0
  | [], _, h => by simp at h
  | c :: l, hn, h => by
    have hn' := List.nodup_cons.1 hn
    by_cases hc : c = p
    · subst hc
      have : l.filter (fun d => f d && !(d == c)) = l.filter f := List.filter_congr fun d hd => by
        have : ¬ d = c := fun e => hn'.1 (e ▸ hd)
        simp [this]
      rw [List.filter_cons, List.filter_cons, this]
      cases hf : f c <;> simp
    · have hm : p ∈ l := by
        rcases List.mem_cons.1 h with h | h
        · exact absurd h.symm hc
        · exact h
      have ih := count_one (f := f) hn'.2 hm
      rw [List.filter_cons, List.filter_cons]
      cases hf : f c
      · simpa [hf] using ih
      · simp only [if_true, hf, hc, beq_iff_eq, Bool.true_and, Bool.not_eq_true', List.length_cons]
        have hb : (c == p) = false := by simpa using hc
        rw [hb]
        simp only [if_true, List.length_cons]
        omega
theorem cnt_next (hp : p < g.length) (ho : p ∉ o) : cnt g o j = cnt g (o ++ [p]) j + if e g p j then 1 else 0 := by
  unfold cnt
  rw [count_one (p := p) List.nodup_range (List.mem_range.2 hp)]
  have : (fun c => (e g c j && !o.contains c) && !(c == p)) = fun c => e g c j && !(o ++ [p]).contains c := by
    funext c
    by_cases hc : c = p <;> simp [hc]
  rw [this]
  simp [ho]
theorem leftQ_end (hp : pick g o = some p) (h : (called g (p : Int)).length ≤ q) : leftQ g o p q = leftL g (o ++ [p]) := by
  obtain ⟨hp1, hp2, _⟩ := pick_some hp
  unfold leftQ leftL
  refine rowN_ext fun j _ => ?_
  rw [List.take_of_length_le h]
  have := cnt_next (j := j) hp1 hp2
  simp only [mem_called_nat]
  split
  · rfl
  · split <;> simp_all <;> omega
theorem idx_none {kx : Int} (h : Jb.IdxP (leftL g o) 0 kx) (hk : kx < 0) : pick g o = none := by
  rcases h with ⟨_, h⟩ | ⟨n, rfl, _⟩
  · refine pick_stop fun j hj => ?_
    by_cases hjo : j ∈ o
    · exact .inl hjo
    · refine .inr fun hc => h ?_
      refine List.mem_of_getElem? (i := j) ?_
      unfold leftL
      rw [rowN_get hj, if_neg hjo, hc]; rfl
  · omega
theorem idx_some {kx : Int} (h : Jb.IdxP (leftL g o) 0 kx) (hk : ¬ kx < 0) : ∃ p : Nat, kx = p ∧ pick g o = some p := by
  rcases h with ⟨rfl, _⟩ | ⟨n, rfl, h1, h2⟩
  · omega
  · have hn : n < g.length := by have := (List.getElem?_eq_some_iff.1 h1).1; rwa [leftL_len] at this
    refine ⟨n, rfl, pick_at hn ?_ ?_ fun j hj => ?_⟩
    · intro hin
      unfold leftL at h1
      rw [rowN_get hn, if_pos hin] at h1; simp at h1
    · unfold leftL at h1
      rw [rowN_get hn] at h1
      split at h1 <;> simp at h1
      omega
    · by_cases hjo : j ∈ o
      · exact .inl hjo
      · refine .inr fun hc => ?_
        refine h2 j hj _ (show (leftL g o)[j]? = some ((cnt g o j : Int)) from ?_) (by rw [hc]; rfl)
        unfold leftL
        rw [rowN_get (by omega), if_neg hjo]
/-! ### The row -/
def ordL (g : List (List Int)) : List Int := ((ordN g g.length).getD []).map fun (n : Nat) => (n : Int)
theorem ordL_yes (h : ordN g g.length = some o) : ordL g = o.map fun (n : Nat) => (n : Int) := by unfold ordL; rw [h]; rfl
theorem ordL_no (h : ordN g g.length = none) : ordL g = [] := by unfold ordL; rw [h]; rfl
theorem ord_more (ho : ordN g k = some o) (hp : pick g o = some p) : ordN g (k + 1) = some (o ++ [p]) := by simp [ordN, ho, hp]
theorem ord_stop (ho : ordN g k = some o) (hp : pick g o = none) (hk : k < g.length) : ordN g g.length = none := ord_none (k := k + 1) (by simp [ordN, ho, hp]) _ (by omega)
/-! ### The document's way -/
theorem reachL_len : (reachL g i).length ≤ g.length := by
  unfold reachL; rw [List.length_map]; exact Nat.le_trans (List.length_filter_le _ _) (by simp)
theorem reach_self : (i : Int) ∈ reachL g i ↔ Path (e g) i i := by
  rw [mem_reachL]
  constructor
  · rintro ⟨j, h, hp⟩
    have : j = i := by omega
    exact this ▸ hp
  · exact fun h => ⟨i, rfl, h⟩
end
end Go.LK.Gr
