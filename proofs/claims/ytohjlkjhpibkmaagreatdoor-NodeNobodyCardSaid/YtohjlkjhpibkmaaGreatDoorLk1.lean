/-
  A small program logic over the model's calls: symbolic frames (lists of slots), spatial atoms with footprints, a control stack.
  Nothing here speaks of a program: the program is a variable.
-/
import Derived.WalkKit
import Derived.Still
import Derived.Laws.OwnMore
namespace Go.LK
open Go Go.RowKit

/-! ### Frames -/
abbrev Env := List (Nat × Value)

def look : Env → Nat → Option Value
  | [], _ => none
  | (k, v) :: E, t => bif Nat.beq k t then some v else look E t

theorem look_cons (k t : Nat) (v : Value) (E : Env) : look ((k, v) :: E) t = if k = t then some v else look E t := by
  simp only [look]
  by_cases h : k = t
  · subst h; simp
  · have : Nat.beq k t = false := by
      cases hb : Nat.beq k t
      · rfl
      · exact absurd (Nat.eq_of_beq_eq_true hb) h
    simp [this, h]

structure Has (n : Nat) (a : Act) (E : Env) : Prop where
  size : a.tmps.size = n
  defers : a.defers = []
  at_ : ∀ t v, look E t = some v → a.tmps.getD t undef = v

def ev (E : Env) : Operand → Option Value
  | .tmp t => look E t
  | .const v => some v
  | .global g => some (.pointer (some ⟨g, 0, none⟩))
  | .func f => some (.func (.func f) #[] #[])

theorem Has.ev {n : Nat} {a : Act} {E : Env} {x : Operand} {v : Value} (h : Has n a E) (hx : ev E x = some v) : a.eval x = v := by
  cases x with
  | tmp t => exact h.at_ t v hx
  | const u => simpa [LK.ev, Act.eval] using hx
  | global g => simpa [LK.ev, Act.eval] using hx
  | func f => simpa [LK.ev, Act.eval] using hx

theorem Has.put {n d : Nat} {a : Act} {E : Env} (h : Has n a E) (v : Value) (hd : Nat.blt d n = true) : Has n (a.put (some d) v) ((d, v) :: E) := by
  have hd' : d < a.tmps.size := by rw [h.size]; exact Nat.le_of_ble_eq_true hd
  refine ⟨by simpa [Act.put] using h.size, h.defers, fun t u hu => ?_⟩
  rw [look_cons] at hu
  simp only [Act.put]
  by_cases e : d = t
  · subst e
    rw [if_pos rfl] at hu
    cases hu
    simp [Array.getD_eq_getD_getElem?, hd']
  · rw [if_neg e] at hu
    have := h.at_ t u hu
    rw [Array.getD_eq_getD_getElem?] at this ⊢
    rw [Array.getElem?_setIfInBounds_ne e]
    exact this

/-- a slot is overwritten by something that is not looked at again -/
def drop (d : Nat) : Env → Env
  | [] => []
  | (k, v) :: E => bif Nat.beq k d then drop d E else (k, v) :: drop d E

/-- E' says no more than E. -/
def Sub : Env → Env → Prop
  | [], _ => True
  | (k, v) :: E', E => look E k = some v ∧ Sub E' E

theorem Sub.look {E' E : Env} (h : Sub E' E) {t : Nat} {v : Value} (ht : look E' t = some v) : look E t = some v := by
  induction E' with
  | nil => simp [LK.look] at ht
  | cons p E' ih =>
    obtain ⟨k, u⟩ := p
    rw [look_cons] at ht
    by_cases e : k = t
    · subst e
      rw [if_pos rfl] at ht
      cases ht
      exact h.1
    · rw [if_neg e] at ht
      exact ih h.2 ht

theorem Has.sub {n : Nat} {a : Act} {E E' : Env} (h : Has n a E) (hs : Sub E' E) : Has n a E' :=
  ⟨h.size, h.defers, fun t v ht => h.at_ t v (hs.look ht)⟩

/-! ### Spatial atoms -/
structure Sp where
  foot : List Nat
  holds : World → Prop
  lt : ∀ w, holds w → ∀ k ∈ foot, k < w.heap.size
  loc : ∀ w w', (∀ k ∈ foot, w'.heap[k]? = w.heap[k]?) → holds w → holds w'

def feet (L : List Sp) : List Nat := L.flatMap Sp.foot

@[simp] theorem feet_nil : feet [] = [] := rfl
@[simp] theorem feet_cons (A : Sp) (L : List Sp) : feet (A :: L) = A.foot ++ feet L := rfl
@[simp] theorem feet_append (L L' : List Sp) : feet (L ++ L') = feet L ++ feet L' := by simp [feet]

/-- Block g is just this object. -/
def blk (g : Nat) (o : Obj) : Sp where
  foot := [g]
  holds w := w.heap[g]? = some o
  lt w h k hk := by
    simp only [List.mem_singleton] at hk
    subst hk
    exact (Array.getElem?_eq_some_iff.1 h).1
  loc w w' h hh := by
    rw [h g (by simp)]
    exact hh

/-- A variable (or row) of cells, none of them frozen. -/
abbrev var (g : Nat) (cs : List Value) (t : TypeId) : Sp := blk g (.cells cs.toArray t (0, 0))

/-- The slice value v owns the cells xs. -/
def own (v : Value) (e : TypeId) (size n : Nat) (xs : List Value) : Sp where
  foot := v.ownBlock.toList
  holds w := w.ownsRow 0 e size v n xs
  lt w h k hk := by
    have : v.ownBlock = some k := by simpa using hk
    exact (h.lt k this).2
  loc w w' h hh := by
    refine ⟨hh.1, ?_⟩
    rcases hh.2 with hn | ⟨g, cap, cur, rfl, hb, hg, rest⟩
    · exact .inl hn
    · refine .inr ⟨g, cap, cur, rfl, hb, ?_, rest⟩
      rw [h g (by simp [Value.ownBlock])]
      exact hg

/-! ### Worlds -/
structure Frame (w0 : World) (M : List Nat) (w : World) : Prop where
  os : w.os = w0.os
  tape : w.tape = w0.tape
  output : w.output = w0.output
  size : w0.heap.size ≤ w.heap.size
  old : ∀ k, k < w0.heap.size → k ∉ M → w.heap[k]? = w0.heap[k]?

theorem Frame.refl (w : World) (M : List Nat) : Frame w M w := ⟨rfl, rfl, rfl, Nat.le_refl _, fun _ _ _ => rfl⟩
theorem Frame.trans {w0 w1 w2 : World} {M M' : List Nat} (h : Frame w0 M w1) (h' : Frame w1 M' w2) (hm : ∀ k ∈ M', k ∈ M ∨ w0.heap.size ≤ k) : Frame w0 M w2 :=
  ⟨h'.os.trans h.os, h'.tape.trans h.tape, h'.output.trans h.output, Nat.le_trans h.size h'.size, fun k hk hn =>
    (h'.old k (Nat.lt_of_lt_of_le hk h.size) (fun hk' => by rcases hm k hk' with h1 | h1; exact hn h1; omega)).trans (h.old k hk hn)⟩
theorem Frame.below {w0 w : World} (h : Frame w0 [] w) : Below w0.heap.size w0 w := ⟨h.os, h.tape, h.output, h.size, fun k hk => h.old k hk (by simp)⟩

def Dj (A B : Sp) : Prop := ∀ k ∈ A.foot, k ∉ B.foot
theorem Dj.symm {A B : Sp} (h : Dj A B) : Dj B A := fun k hk hk' => h k hk' hk

structure St (w0 : World) (M : List Nat) (L : List Sp) (w : World) : Prop where
  fr : Frame w0 M w
  at_ : ∀ A ∈ L, A.holds w
  nd : L.Pairwise Dj
  mine : ∀ k ∈ feet L, w0.heap.size ≤ k ∨ k ∈ M

theorem mem_feet {L : List Sp} {k : Nat} : k ∈ feet L ↔ ∃ A ∈ L, k ∈ A.foot := List.mem_flatMap

theorem St.lt {w0 w : World} {M : List Nat} {L : List Sp} (h : St w0 M L w) : ∀ k ∈ feet L, k < w.heap.size := by
  intro k hk
  obtain ⟨A, hA, hk⟩ := mem_feet.1 hk
  exact A.lt w (h.at_ A hA) k hk

/-- Draws, and whatever leaves the heap as it is. -/
theorem St.drew {w0 w : World} {M : List Nat} {L : List Sp} (h : St w0 M L w) (n : Nat) : St w0 M L { w with drawn := n } :=
  ⟨⟨h.fr.os, h.fr.tape, h.fr.output, h.fr.size, h.fr.old⟩, fun A hA => A.loc w _ (fun _ _ => rfl) (h.at_ A hA), h.nd, h.mine⟩

/-- One atom (or several) is exchanged for others. -/
theorem St.step {w0 w w' : World} {M : List Nat} {L L' R : List Sp} (h : St w0 M (L ++ R) w) (hf : Frame w (feet L) w') (hL : ∀ A ∈ L', A.holds w') (hnd : L'.Pairwise Dj)
    (hm : ∀ k ∈ feet L', k ∈ feet L ∨ w.heap.size ≤ k) : St w0 M (L' ++ R) w' := by
  have hnd0 := List.pairwise_append.1 h.nd
  have hR : ∀ k ∈ feet R, k < w.heap.size := fun k hk => h.lt k (by simp [hk])
  have hdis : ∀ k ∈ feet L, k ∉ feet R := fun k hk hk' => by
    obtain ⟨A, hA, hkA⟩ := mem_feet.1 hk
    obtain ⟨B, hB, hkB⟩ := mem_feet.1 hk'
    exact hnd0.2.2 A hA B hB k hkA hkB
  refine ⟨h.fr.trans hf fun k hk => ?_, fun A hA => ?_, ?_, fun k hk => ?_⟩
  · exact (h.mine k (by simp [hk])).symm
  · rcases List.mem_append.1 hA with hA | hA
    · exact hL A hA
    · refine A.loc w w' (fun k hk => ?_) (h.at_ A (by simp [hA]))
      have hkR : k ∈ feet R := mem_feet.2 ⟨A, hA, hk⟩
      exact hf.old k (hR k hkR) (fun hkL => hdis k hkL hkR)
  · refine List.pairwise_append.2 ⟨hnd, hnd0.2.1, fun A hA B hB k hkA hkB => ?_⟩
    have hkB' : k ∈ feet R := mem_feet.2 ⟨B, hB, hkB⟩
    rcases hm k (mem_feet.2 ⟨A, hA, hkA⟩) with h1 | h1
    · exact hdis k h1 hkB'
    · have := hR k hkB'; omega
  · rw [feet_append, List.mem_append] at hk
    rcases hk with hk | hk
    · rcases hm k hk with h1 | h1
      · exact h.mine k (by simp [h1])
      · exact .inl (Nat.le_trans h.fr.size h1)
    · exact h.mine k (by simp [hk])

theorem feet_perm {L L' : List Sp} (hp : L.Perm L') (k : Nat) : k ∈ feet L ↔ k ∈ feet L' := by
  simp only [mem_feet, hp.mem_iff]

theorem St.perm {w0 w : World} {M : List Nat} {L L' : List Sp} (h : St w0 M L w) (hp : L.Perm L') : St w0 M L' w :=
  ⟨h.fr, fun A hA => h.at_ A (hp.mem_iff.2 hA), (hp.pairwise_iff (fun h => Dj.symm h)).1 h.nd, fun k hk => h.mine k ((feet_perm hp k).2 hk)⟩

theorem perm_eraseIdx {α : Type} : ∀ (L : List α) (i : Nat) (A : α), L[i]? = some A → L.Perm (A :: L.eraseIdx i)
  | [], i, A, h => by simp at h
  | B :: L, 0, A, h => by simp at h; subst h; simp
  | B :: L, i + 1, A, h => by
    have := perm_eraseIdx L i A (by simpa using h)
    simp only [List.eraseIdx_cons_succ]
    exact (this.cons B).trans (List.Perm.swap A B _)
theorem perm_set {α : Type} (B : α) : ∀ (L : List α) (i : Nat), i < L.length → (L.set i B).Perm (B :: L.eraseIdx i)
  | [], i, h => by simp at h
  | C :: L, 0, _ => by simp
  | C :: L, i + 1, h => by
    have := perm_set B L i (by simpa using h)
    simp only [List.set_cons_succ, List.eraseIdx_cons_succ]
    exact (this.cons C).trans (List.Perm.swap B C _)

theorem St.set {w0 w w' : World} {M : List Nat} {L : List Sp} (h : St w0 M L w) {i : Nat} {A A' : Sp} (hi : L[i]? = some A) (hf : Frame w A.foot w') (hA : A'.holds w')
    (hm : ∀ k ∈ A'.foot, k ∈ A.foot ∨ w.heap.size ≤ k) : St w0 M (L.set i A') w' := by
  obtain ⟨hlt, _⟩ := List.getElem?_eq_some_iff.1 hi
  have hp : L.Perm ([A] ++ L.eraseIdx i) := perm_eraseIdx L i A hi
  have h1 := (h.perm hp).step (L' := [A']) (w' := w') (by simpa [feet] using hf) (by simpa using hA) (by simp) (by simpa [feet] using hm)
  exact h1.perm (perm_set A' L i hlt).symm

theorem St.add {w0 w w' : World} {M : List Nat} {L : List Sp} (h : St w0 M L w) {A' : Sp} (hf : Frame w [] w') (hA : A'.holds w') (hm : ∀ k ∈ A'.foot, w.heap.size ≤ k) : St w0 M (A' :: L) w' :=
  St.step (L := []) (R := L) (L' := [A']) h hf (by simpa using hA) (by simp) (fun k hk => .inr (hm k (by simpa [feet] using hk)))

theorem St.quiet {w0 w w' : World} {M : List Nat} {L : List Sp} (h : St w0 M L w) (hf : Frame w [] w') : St w0 M L w' :=
  St.step (L := []) (R := L) (L' := []) h hf (by simp) (by simp) (by simp)

/-- Some of the atoms, by their places. -/
def sel (L : List Sp) (is : List Nat) : List Sp := is.filterMap (L[·]?)

theorem St.nd' {w0 w : World} {M : List Nat} {L : List Sp} (h : St w0 M L w) {i j : Nat} {A B : Sp} (hne : i ≠ j) (hi : L[i]? = some A) (hj : L[j]? = some B) : Dj A B := by
  obtain ⟨hi1, rfl⟩ := List.getElem?_eq_some_iff.1 hi
  obtain ⟨hj1, rfl⟩ := List.getElem?_eq_some_iff.1 hj
  have hp := List.pairwise_iff_getElem.1 h.nd
  rcases Nat.lt_or_gt_of_ne hne with hlt | hgt
  · exact hp i j hi1 hj1 hlt
  · exact (hp j i hj1 hi1 hgt).symm

theorem St.sel {w0 w : World} {M : List Nat} {L : List Sp} (h : St w0 M L w) {is : List Nat} (hn : is.Nodup) : St w0 M (LK.sel L is) w := by
  have hmem : ∀ A ∈ LK.sel L is, A ∈ L := fun A hA => by
    obtain ⟨i, _, hi⟩ := List.mem_filterMap.1 hA
    exact List.mem_of_getElem? hi
  refine ⟨h.fr, fun A hA => h.at_ A (hmem A hA), ?_, fun k hk => ?_⟩
  · refine List.pairwise_filterMap.2 (hn.imp ?_)
    intro i j hne A hA B hB
    exact h.nd' hne hA hB
  · obtain ⟨A, hA, hkA⟩ := mem_feet.1 hk
    exact h.mine k (mem_feet.2 ⟨A, hmem A hA, hkA⟩)

end Go.LK
