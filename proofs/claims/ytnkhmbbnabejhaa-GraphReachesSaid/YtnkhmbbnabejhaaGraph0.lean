/-
  The plain law of who calls whom: what is reached, and rows in which callers stand ahead.
-/
import Derived.Test.YtnkhmbbnabejhaaJob0
namespace Go.LK.Gr
open Go Go.LK
inductive Path (E : Nat → Nat → Bool) : Nat → Nat → Prop
  | one {i j : Nat} : E i j = true → Path E i j
  | step {i k j : Nat} : Path E i k → E k j = true → Path E i j
theorem Path.cons {E : Nat → Nat → Bool} {i k j : Nat} (h : E i k = true) (hp : Path E k j) : Path E i j := by
  induction hp with
  | one h2 => exact .step (.one h) h2
  | step _ h2 ih => exact .step ih h2
theorem Path.trans {E : Nat → Nat → Bool} {i k j : Nat} (h : Path E i k) (hp : Path E k j) : Path E i j := by
  induction hp with
  | one h2 => exact .step h h2
  | step _ h2 ih => exact .step ih h2
theorem Path.first {E : Nat → Nat → Bool} {i j : Nat} (h : Path E i j) : E i j = true ∨ ∃ k, E i k = true ∧ Path E k j := by
  induction h with
  | one h => exact .inl h
  | step h h2 ih =>
    rcases ih with h3 | ⟨k, h3, h4⟩
    · exact .inr ⟨_, h3, .one h2⟩
    · exact .inr ⟨k, h3, .step h4 h2⟩
/-- Does one of a row of rows of numbers call another one? -/
def e (g : List (List Int)) (i j : Nat) : Bool := decide (i < g.length) && decide (j < g.length) && (g.getD i []).contains (j : Int)
theorem e_lt {g : List (List Int)} {i j : Nat} (h : e g i j = true) : i < g.length ∧ j < g.length := by
  simp only [e, Bool.and_eq_true, decide_eq_true_eq] at h
  exact h.1
theorem path_lt {g : List (List Int)} {i j : Nat} (h : Path (e g) i j) : i < g.length ∧ j < g.length := by
  induction h with
  | one h => exact e_lt h
  | step _ h2 ih => exact ⟨ih.1, (e_lt h2).2⟩
/-- The whole of it. -/
noncomputable def reachP (g : List (List Int)) (i j : Nat) : Bool := @decide (Path (e g) i j) (Classical.propDecidable _)
theorem reachP_iff {g : List (List Int)} {i j : Nat} : reachP g i j = true ↔ Path (e g) i j := by
  unfold reachP; exact @decide_eq_true_iff _ (Classical.propDecidable _)
noncomputable def reachL (g : List (List Int)) (i : Nat) : List Int := ((List.range g.length).filter (reachP g i)).map fun (n : Nat) => (n : Int)
theorem mem_reachL {g : List (List Int)} {i : Nat} {x : Int} : x ∈ reachL g i ↔ ∃ j : Nat, x = j ∧ Path (e g) i j := by
  unfold reachL
  rw [List.mem_map]
  constructor
  · rintro ⟨j, hj, rfl⟩
    exact ⟨j, rfl, reachP_iff.1 (List.mem_filter.1 hj).2⟩
  · rintro ⟨j, rfl, hp⟩
    exact ⟨j, List.mem_filter.2 ⟨List.mem_range.2 (path_lt hp).2, reachP_iff.2 hp⟩, rfl⟩
theorem up_range {p : Nat → Bool} {n : Nat} : Jb.Up (((List.range n).filter p).map fun (n : Nat) => (n : Int)) := by
  refine List.pairwise_map.2 ?_
  refine List.Pairwise.imp ?_ (List.Pairwise.filter p List.pairwise_lt_range)
  intro a b h; omega
theorem reachL_up {g : List (List Int)} {i : Nat} : Jb.Up (reachL g i) := up_range

/-! ### Marks, in rounds -/
def cntT (m : List Bool) : Nat := m.countP id
theorem cntT_le (m : List Bool) : cntT m ≤ m.length := List.countP_le_length
theorem cntT_mono : ∀ {a b : List Bool}, a.length = b.length → (∀ j : Nat, a[j]? = some true → b[j]? = some true) → cntT a ≤ cntT b
  | [], [], _, _ => Nat.le_refl _
  | x :: a, y :: b, hl, h => by
    have ih := cntT_mono (a := a) (b := b) (by simpa using hl) fun j hj => by simpa using h (j + 1) (by simpa using hj)
    have h0 := h 0
    unfold cntT at ih ⊢
    simp only [List.countP_cons]
    cases x <;> cases y <;> simp_all <;> omega
theorem cntT_lt : ∀ {a b : List Bool} {j : Nat}, a.length = b.length → (∀ j : Nat, a[j]? = some true → b[j]? = some true) → a[j]? = some false → b[j]? = some true → cntT a < cntT b
  | [], [], j, _, _, h, _ => by simp at h
  | x :: a, y :: b, 0, hl, h, h1, h2 => by
    have ih := cntT_mono (a := a) (b := b) (by simpa using hl) fun j hj => by simpa using h (j + 1) (by simpa using hj)
    simp at h1 h2
    subst h1; subst h2
    unfold cntT at ih ⊢
    simp only [List.countP_cons]
    simp; omega
  | x :: a, y :: b, j + 1, hl, h, h1, h2 => by
    have ih := cntT_lt (a := a) (b := b) (j := j) (by simpa using hl) (fun j hj => by simpa using h (j + 1) (by simpa using hj)) (by simpa using h1) (by simpa using h2)
    have h0 := h 0
    unfold cntT at ih ⊢
    simp only [List.countP_cons]
    cases x <;> cases y <;> simp_all <;> omega
abbrev T (m : List Bool) (j : Nat) : Prop := m[j]? = some true
structure RI (g : List (List Int)) (f : Nat) (bef now : List Bool) (t k : Nat) : Prop where
  len0 : bef.length = g.length
  len : now.length = g.length
  sub : ∀ j, T bef j → T now j
  sound : ∀ j, T now j → Path (e g) f j
  done : ∀ j, j < t → ∀ i, e g i j = true → (i = f ∨ T bef i) → T now j
  here : ∀ i, i < k → e g i t = true → (i = f ∨ T bef i) → T now t
def Closed (g : List (List Int)) (f : Nat) (m : List Bool) : Prop := ∀ i j, e g i j = true → (i = f ∨ T m i) → T m j
structure RO (g : List (List Int)) (f : Nat) (m : List Bool) (r : Nat) : Prop where
  len : m.length = g.length
  sound : ∀ j, T m j → Path (e g) f j
  fin : Closed g f m ∨ r ≤ cntT m
section
variable {g : List (List Int)} {f t k r : Nat} {bef now m : List Bool}
theorem RO.zero : RO g f (List.replicate g.length false) 0 := ⟨by simp, fun j hj => by
  unfold T at hj; rw [List.getElem?_replicate] at hj; split at hj <;> simp at hj, .inr (Nat.zero_le _)⟩
theorem RO.begin (h : RO g f m r) : RI g f m m 0 0 := ⟨h.len, h.len, fun _ h => h, h.sound, fun j hj => absurd hj (Nat.not_lt_zero _), fun i hi => absurd hi (Nat.not_lt_zero _)⟩
theorem RI.row (h : RI g f bef now t g.length) : RI g f bef now (t + 1) 0 := ⟨h.len0, h.len, h.sub, h.sound, fun j hj i he hi => by
  rcases Nat.lt_or_ge j t with h1 | h1
  · exact h.done j h1 i he hi
  · have : j = t := by omega
    subst this
    exact h.here i (e_lt he).1 he hi, fun i hi => absurd hi (Nat.not_lt_zero _)⟩
theorem RI.skip (h : RI g f bef now t k) (hn : ¬ (e g k t = true ∧ (k = f ∨ T now k))) : RI g f bef now t (k + 1) := ⟨h.len0, h.len, h.sub, h.sound, h.done, fun i hi he hb => by
  rcases Nat.lt_or_ge i k with h1 | h1
  · exact h.here i h1 he hb
  · have : i = k := by omega
    subst this
    exact absurd ⟨he, hb.imp id (h.sub _)⟩ hn⟩
theorem RI.mark (h : RI g f bef now t k) (he : e g k t = true) (hk : k = f ∨ T now k) : RI g f bef (now.set t true) t (k + 1) := by
  have hp : Path (e g) f t := by
    rcases hk with rfl | hk
    · exact .one he
    · exact .step (h.sound _ hk) he
  have ht : t < now.length := by rw [h.len]; exact (e_lt he).2
  have hs : ∀ j, T now j → T (now.set t true) j := fun j hj => by
    unfold T at hj ⊢
    rw [List.getElem?_set]
    split
    · first | rfl | rw [if_pos (by omega)]
    · exact hj
  refine ⟨h.len0, by simpa using h.len, fun j hj => hs j (h.sub j hj), fun j hj => ?_, fun j hj i h1 h2 => hs j (h.done j hj i h1 h2), fun i _ _ _ => ?_⟩
  · unfold T at hj
    rw [List.getElem?_set] at hj
    split at hj
    · rename_i hjt; subst hjt; exact hp
    · exact h.sound j hj
  · unfold T; rw [List.getElem?_set, if_pos rfl, if_pos ht]
theorem RI.over (h : RI g f bef now g.length 0) (h0 : RO g f bef r) : RO g f now (r + 1) := by
  refine ⟨h.len, h.sound, ?_⟩
  have hd : ∀ i j, e g i j = true → (i = f ∨ T bef i) → T now j := fun i j he hb => h.done j (e_lt he).2 i he hb
  by_cases hc : Closed g f bef
  · refine .inl fun i j he hi => ?_
    have hall : ∀ j, Path (e g) f j → T bef j := fun j hp => by
      induction hp with
      | one he => exact hc _ _ he (.inl rfl)
      | step _ he ih => exact hc _ _ he (.inr ih)
    refine hd i j he (hi.imp id fun hi => hall _ (h.sound _ hi))
  · refine .inr ?_
    have : ∃ i j, e g i j = true ∧ (i = f ∨ T bef i) ∧ ¬ T bef j := Classical.byContradiction fun hn => hc fun i j he hi => Classical.byContradiction fun hj => hn ⟨i, j, he, hi, hj⟩
    obtain ⟨i, j, he, hi, hj⟩ := this
    have hjl : j < bef.length := by rw [h.len0]; exact (e_lt he).2
    have hf : bef[j]? = some false := by
      rw [List.getElem?_eq_getElem hjl]
      unfold T at hj
      rw [List.getElem?_eq_getElem hjl] at hj
      cases hb : bef[j] <;> simp_all
    have hlt := cntT_lt (a := bef) (b := now) (j := j) (by rw [h.len0, h.len]) h.sub hf (hd i j he hi)
    rcases h0.fin with h1 | h1
    · exact absurd h1 hc
    · omega
theorem RO.last (h : RO g f m g.length) (j : Nat) : T m j ↔ Path (e g) f j := by
  refine ⟨h.sound j, fun hp => ?_⟩
  have hc : Closed g f m := by
    rcases h.fin with h1 | h1
    · exact h1
    · intro i j he _
      have hjl : j < m.length := by rw [h.len]; exact (e_lt he).2
      by_cases hj : T m j
      · exact hj
      · exfalso
        have hf : m[j]? = some false := by
          rw [List.getElem?_eq_getElem hjl]
          unfold T at hj
          rw [List.getElem?_eq_getElem hjl] at hj
          cases hb : m[j] <;> simp_all
        have h2 := cntT_lt (a := m) (b := List.replicate m.length true) (j := j) (by simp) (fun i hi => by
          have : i < m.length := (List.getElem?_eq_some_iff.1 hi).1
          rw [List.getElem?_replicate, if_pos this]) hf (by rw [List.getElem?_replicate, if_pos hjl])
        have h3 := cntT_le (List.replicate m.length true)
        rw [List.length_replicate] at h3
        have h4 := h.len
        omega
  induction hp with
  | one he => exact hc _ _ he (.inl rfl)
  | step _ he ih => exact hc _ _ he (.inr ih)
/-- The row of those that are marked. -/
def marked (m : List Bool) (k : Nat) : List Int := ((List.range k).filter fun j => m.getD j false).map fun (n : Nat) => (n : Int)
theorem marked_yes (h : m[k]? = some true) : marked m (k + 1) = marked m k ++ [(k : Int)] := by
  have : m.getD k false = true := by rw [List.getD_eq_getElem?_getD, h]; rfl
  unfold marked; rw [List.range_succ, List.filter_append, List.map_append, List.filter_cons, if_pos this]; rfl
theorem marked_no (h : m[k]? = some false) : marked m (k + 1) = marked m k := by
  have : ¬ m.getD k false = true := by rw [List.getD_eq_getElem?_getD, h]; simp
  unfold marked; rw [List.range_succ, List.filter_append, List.map_append, List.filter_cons, if_neg this]; simp
theorem RO.row (h : RO g f m g.length) : marked m g.length = reachL g f := by
  unfold marked reachL
  congr 1
  refine List.filter_congr fun j hj => ?_
  have h1 := h.last j
  rw [Bool.eq_iff_iff, reachP_iff, ← h1]
  unfold T
  rw [List.getD_eq_getElem?_getD]
  cases hm : m[j]? with
  | none => simp
  | some b => simp
end

/-! ### Rows in which callers stand ahead -/
/-- How many callers of one do not stand in a row. -/
def cnt (g : List (List Int)) (o : List Nat) (n : Nat) : Nat := ((List.range g.length).filter fun c => e g c n && !o.contains c).length
def pick (g : List (List Int)) (o : List Nat) : Option Nat := (List.range g.length).find? fun n => !o.contains n && cnt g o n == 0
def ordN (g : List (List Int)) : Nat → Option (List Nat)
  | 0 => some []
  | k + 1 => (ordN g k).bind fun o => (pick g o).map fun n => o ++ [n]
section
variable {g : List (List Int)} {o : List Nat} {k n : Nat}
theorem cnt_zero : cnt g o n = 0 ↔ ∀ c, e g c n = true → c ∈ o := by
  unfold cnt
  rw [List.length_eq_zero_iff, List.filter_eq_nil_iff]
  constructor
  · intro h c hc
    have := h c (List.mem_range.2 (e_lt hc).1)
    simpa [hc] using this
  · intro h c _ hc
    simp only [Bool.and_eq_true, Bool.not_eq_true', List.contains_eq_mem, decide_eq_false_iff_not] at hc
    exact hc.2 (h c hc.1)
theorem pick_some (h : pick g o = some n) : n < g.length ∧ n ∉ o ∧ ∀ c, e g c n = true → c ∈ o := by
  have h1 := List.find?_some h
  have h2 := List.mem_of_find?_eq_some h
  simp only [Bool.and_eq_true, Bool.not_eq_true', List.contains_eq_mem, decide_eq_false_iff_not, beq_iff_eq] at h1
  exact ⟨List.mem_range.1 h2, h1.1, cnt_zero.1 h1.2⟩
theorem pick_none (h : pick g o = none) (hn : n < g.length) (ho : n ∉ o) : ∃ c, e g c n = true ∧ c ∉ o := by
  have h1 := List.find?_eq_none.1 h n (List.mem_range.2 hn)
  simp only [Bool.and_eq_true, Bool.not_eq_true', List.contains_eq_mem, decide_eq_false_iff_not, beq_iff_eq, not_and] at h1
  have h2 : ¬ cnt g o n = 0 := h1 ho
  rw [cnt_zero] at h2
  exact Classical.byContradiction fun hc => h2 fun c hc' => Classical.byContradiction fun h3 => hc ⟨c, hc', h3⟩
/-- The first place with a 0 of the row that tells, of those outside, how many callers there are. -/
theorem pick_at (hn : n < g.length) (ho : n ∉ o) (h0 : cnt g o n = 0) (hl : ∀ j, j < n → j ∈ o ∨ cnt g o j ≠ 0) : pick g o = some n := by
  unfold pick
  rw [List.find?_range_eq_some]
  refine ⟨by simp [ho, h0], by simpa using hn, fun j hj => ?_⟩
  rcases hl j hj with h | h
  · simp [h]
  · simp [h]
theorem pick_stop (hl : ∀ j, j < g.length → j ∈ o ∨ cnt g o j ≠ 0) : pick g o = none := by
  unfold pick
  rw [List.find?_eq_none]
  intro j hj
  rcases hl j (List.mem_range.1 hj) with h | h
  · simp [h]
  · simp [h]
theorem ord_step (h : ordN g (k + 1) = some o) : ∃ o' n, ordN g k = some o' ∧ pick g o' = some n ∧ o = o' ++ [n] := by
  simp only [ordN, Option.bind_eq_some_iff, Option.map_eq_some_iff] at h
  obtain ⟨o', h1, n, h2, rfl⟩ := h
  exact ⟨o', n, h1, h2, rfl⟩
theorem ord_none (h : ordN g k = none) : ∀ m, k ≤ m → ordN g m = none := by
  intro m
  induction m with
  | zero => intro hm; have : k = 0 := by omega
            subst this; exact h
  | succ m ih =>
    intro hm
    rcases Nat.lt_or_ge m k with h1 | h1
    · have : k = m + 1 := by omega
      subst this; exact h
    · simp [ordN, ih h1]
theorem ord_len : ∀ {k : Nat} {o : List Nat}, ordN g k = some o → o.length = k
  | 0, o, h => by cases h; rfl
  | k + 1, o, h => by
    obtain ⟨o', n, h1, h2, rfl⟩ := ord_step h
    simp [ord_len h1]
theorem ord_lt : ∀ {k : Nat} {o : List Nat}, ordN g k = some o → ∀ n ∈ o, n < g.length
  | 0, o, h => by cases h; simp
  | k + 1, o, h => by
    obtain ⟨o', p, h1, h2, rfl⟩ := ord_step h
    intro n hn
    rcases List.mem_append.1 hn with hn | hn
    · exact ord_lt h1 n hn
    · rw [List.mem_singleton.1 hn]; exact (pick_some h2).1
theorem ord_nodup : ∀ {k : Nat} {o : List Nat}, ordN g k = some o → o.Nodup
  | 0, o, h => by cases h; simp
  | k + 1, o, h => by
    obtain ⟨o', p, h1, h2, rfl⟩ := ord_step h
    refine List.nodup_append.2 ⟨ord_nodup h1, by simp, fun a ha b hb => ?_⟩
    rw [List.mem_singleton.1 hb]
    intro he
    subst he
    exact (pick_some h2).2.1 ha
/-- Callers of those that stand in the row stand in it. -/
theorem ord_closed : ∀ {k : Nat} {o : List Nat}, ordN g k = some o → ∀ n ∈ o, ∀ c, e g c n = true → c ∈ o
  | 0, o, h => by cases h; simp
  | k + 1, o, h => by
    obtain ⟨o', p, h1, h2, rfl⟩ := ord_step h
    intro n hn c hc
    rcases List.mem_append.1 hn with hn | hn
    · exact List.mem_append.2 (.inl (ord_closed h1 n hn c hc))
    · rw [List.mem_singleton.1 hn] at hc
      exact List.mem_append.2 (.inl ((pick_some h2).2.2 c hc))
theorem ord_path (h : ordN g k = some o) {i j : Nat} (hp : Path (e g) i j) : j ∈ o → i ∈ o := by
  induction hp with
  | one he => intro hj; exact ord_closed h _ hj _ he
  | step _ he ih => intro hj; exact ih (ord_closed h _ hj _ he)
theorem ord_round : ∀ {k : Nat} {o : List Nat}, ordN g k = some o → ∀ n ∈ o, ¬ Path (e g) n n
  | 0, o, h => by cases h; simp
  | k + 1, o, h => by
    obtain ⟨o', p, h1, h2, rfl⟩ := ord_step h
    intro n hn
    rcases List.mem_append.1 hn with hn | hn
    · exact ord_round h1 n hn
    · rw [List.mem_singleton.1 hn]
      obtain ⟨_, hp, hc⟩ := pick_some h2
      intro hpp
      cases hpp with
      | one he => exact hp (hc _ he)
      | step h3 he => exact hp (ord_path h1 h3 (hc _ he))
/-- How many do not stand in it. -/
def out (g : List (List Int)) (o : List Nat) : List Nat := (List.range g.length).filter fun n => !o.contains n
theorem out_step {p : Nat} (hp : p < g.length) (ho : p ∉ o) : (out g (o ++ [p])).length + 1 = (out g o).length := by
  have h1 : out g (o ++ [p]) = (out g o).filter fun n => decide (n ≠ p) := by
    unfold out
    rw [List.filter_filter]
    refine List.filter_congr fun n _ => ?_
    by_cases h : n ∈ o <;> by_cases h2 : n = p <;> simp [h, h2]
  have h2 : p ∈ out g o := List.mem_filter.2 ⟨List.mem_range.2 hp, by simp [ho]⟩
  have h3 : (out g o).Nodup := List.Pairwise.filter _ List.nodup_range
  rw [h1]
  clear h1
  generalize out g o = l at h2 h3
  induction l with
  | nil => simp at h2
  | cons x l ih =>
    have h4 := List.nodup_cons.1 h3
    by_cases hx : x = p
    · subst hx
      have : l.filter (fun n => decide (n ≠ x)) = l := List.filter_eq_self.2 fun y hy => by
        have : y ≠ x := fun he => h4.1 (he ▸ hy)
        simp [this]
      simp only [ne_eq, decide_not] at this
      simp [this]
    · have hm : p ∈ l := by
        rcases List.mem_cons.1 h2 with h | h
        · exact absurd h.symm hx
        · exact h
      have := ih hm h4.2
      simp [hx]
      simpa using this
theorem out_len : ∀ {k : Nat} {o : List Nat}, ordN g k = some o → (out g o).length + k = g.length
  | 0, o, h => by
    cases h
    have : (List.range g.length).filter (fun n => !([] : List Nat).contains n) = List.range g.length := List.filter_eq_self.2 fun _ _ => rfl
    simp only [out, this, List.length_range, Nat.add_zero]
  | k + 1, o, h => by
    obtain ⟨o', p, h1, h2, rfl⟩ := ord_step h
    have := out_len h1
    have := out_step (pick_some h2).1 (pick_some h2).2.1
    omega
theorem ord_all (h : ordN g g.length = some o) : ∀ n, n < g.length → n ∈ o := by
  have h1 := out_len h
  have h2 : out g o = [] := List.eq_nil_of_length_eq_zero (by omega)
  intro n hn
  have := List.filter_eq_nil_iff.1 h2 n (List.mem_range.2 hn)
  simpa using this
/-- How many come ahead of one. -/
noncomputable def anc (g : List (List Int)) (n : Nat) : Nat := ((List.range g.length).filter fun i => reachP g i n).length
theorem filter_lt {p q : Nat → Bool} {l : List Nat} (hs : ∀ x, p x = true → q x = true) {y : Nat} (hy : y ∈ l) (h1 : p y = false) (h2 : q y = true) : (l.filter p).length < (l.filter q).length := by
  induction l with
  | nil => simp at hy
  | cons x l ih =>
    have hle : (l.filter p).length ≤ (l.filter q).length := by
      clear ih hy
      induction l with
      | nil => simp
      | cons z l ih =>
        have := hs z
        cases hp : p z <;> cases hq : q z <;> simp_all <;> omega
    rcases List.mem_cons.1 hy with rfl | hy
    · simp [h1, h2]; omega
    · have := ih hy
      have := hs x
      cases hp : p x <;> cases hq : q x <;> simp_all <;> omega
theorem anc_lt (hc : ∀ i, ¬ Path (e g) i i) {c n : Nat} (h : e g c n = true) : anc g c < anc g n := by
  unfold anc
  refine filter_lt (y := c) (fun i hi => reachP_iff.2 (.step (reachP_iff.1 hi) h)) (List.mem_range.2 (e_lt h).1) ?_ (reachP_iff.2 (.one h))
  cases hb : reachP g c c with
  | false => rfl
  | true => exact absurd (reachP_iff.1 hb) (hc c)
theorem min_of {f : Nat → Nat} : ∀ {l : List Nat}, l ≠ [] → ∃ x ∈ l, ∀ y ∈ l, f x ≤ f y
  | [x], _ => ⟨x, by simp, by simp⟩
  | x :: z :: l, _ => by
    obtain ⟨m, hm, hl⟩ := min_of (f := f) (l := z :: l) (by simp)
    rcases Nat.le_total (f x) (f m) with h | h
    · exact ⟨x, by simp, fun y hy => by
        rcases List.mem_cons.1 hy with rfl | hy
        · exact Nat.le_refl _
        · exact Nat.le_trans h (hl y hy)⟩
    · exact ⟨m, List.mem_cons_of_mem _ hm, fun y hy => by
        rcases List.mem_cons.1 hy with rfl | hy
        · exact h
        · exact hl y hy⟩
theorem pick_is (hc : ∀ i, ¬ Path (e g) i i) (ho : out g o ≠ []) : ∃ n, pick g o = some n := by
  cases hp : pick g o with
  | some n => exact ⟨n, rfl⟩
  | none =>
    exfalso
    obtain ⟨n, hn, hmin⟩ := min_of (f := anc g) ho
    have h1 := List.mem_filter.1 hn
    obtain ⟨c, h2, h3⟩ := pick_none hp (List.mem_range.1 h1.1) (by simpa using h1.2)
    have := hmin c (List.mem_filter.2 ⟨List.mem_range.2 (e_lt h2).1, by simpa using h3⟩)
    have := anc_lt hc h2
    omega
theorem ord_is (hc : ∀ i, ¬ Path (e g) i i) : ∀ k, k ≤ g.length → ∃ o, ordN g k = some o
  | 0, _ => ⟨[], rfl⟩
  | k + 1, hk => by
    obtain ⟨o, ho⟩ := ord_is hc k (by omega)
    have h1 := out_len ho
    obtain ⟨n, hn⟩ := pick_is (o := o) hc (fun h => by rw [h] at h1; simp at h1; omega)
    exact ⟨o ++ [n], by simp [ordN, ho, hn]⟩
/-- A row there is just where no calls go round. -/
theorem ord_iff : (∃ o, ordN g g.length = some o) ↔ ∀ i, i < g.length → ¬ Path (e g) i i := by
  constructor
  · rintro ⟨o, ho⟩ i hi
    exact ord_round ho i (ord_all ho i hi)
  · intro h
    exact ord_is (fun i hp => h i (path_lt hp).1 hp) _ (Nat.le_refl _)
end
/-- What a check of it comes to. -/
noncomputable def loops (g : List (List Int)) : Int := @ite _ (∃ o, ordN g g.length = some o) (Classical.propDecidable _) 0 11
theorem loops_yes {g : List (List Int)} {o : List Nat} (h : ordN g g.length = some o) : loops g = 0 := by unfold loops; rw [if_pos ⟨o, h⟩]
theorem loops_no {g : List (List Int)} (h : ordN g g.length = none) : loops g = 11 := by
  unfold loops; rw [if_neg]; rintro ⟨o, ho⟩; rw [h] at ho; cases ho
theorem loops_round {g : List (List Int)} {i : Nat} (h : Path (e g) i i) : loops g = 11 := by
  refine loops_no ?_
  cases ho : ordN g g.length with
  | none => rfl
  | some o => exact absurd h (ord_iff.1 ⟨o, ho⟩ i (path_lt h).1)
theorem loops_none {g : List (List Int)} (h : ∀ i, i < g.length → ¬ Path (e g) i i) : loops g = 0 := by
  obtain ⟨o, ho⟩ := ord_iff.2 h
  exact loops_yes ho
end Go.LK.Gr
