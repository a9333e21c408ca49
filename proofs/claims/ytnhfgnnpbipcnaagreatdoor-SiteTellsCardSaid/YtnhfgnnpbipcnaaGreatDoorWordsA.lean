/-
  Several texts in one: Words0, Knob0.
-/
import Derived.Test.YtnhfgnnpbipcnaaGreatDoorLkL
import Derived.Lib.Join
import Derived.Test.YtnhfgnnpbipcnaaGreatDoorDecA
namespace Go.LK.Wd
open Go Go.LK

abbrev Bs := List UInt8
/-! ### Parts between bytes that part -/
def hd (c : UInt8) : List Bs → List Bs
  | [] => [[c]]
  | h :: t => (c :: h) :: t
def cutP (p : UInt8 → Bool) : Bs → List Bs
  | [] => [[]]
  | c :: l => if p c then [] :: cutP p l else hd c (cutP p l)
def untilB (e : Int) (l : Bs) : Bs := l.takeWhile fun c => decide ((c.toNat : Int) ≠ e)
def parts (p : UInt8 → Bool) (e : Int) (s : Bs) : List Bs := cutP p (untilB e s)
def nl (c : UInt8) : Bool := decide ((c.toNat : Int) = 10)
def bl (c : UInt8) : Bool := decide ((c.toNat : Int) = 32) || decide ((c.toNat : Int) = 9)

theorem hd_ne {c : UInt8} {l : List Bs} : hd c l ≠ [] := by cases l <;> simp [hd]
theorem cutP_ne {p : UInt8 → Bool} : ∀ {l : Bs}, cutP p l ≠ []
  | [] => by simp [cutP]
  | c :: l => by
    unfold cutP
    split
    · simp
    · exact hd_ne
theorem hd_len {c : UInt8} {l : List Bs} (h : l ≠ []) : (hd c l).length = l.length := by
  cases l with
  | nil => exact absurd rfl h
  | cons a l => simp [hd]
theorem cutP_len {p : UInt8 → Bool} : ∀ (l : Bs), (cutP p l).length ≤ l.length + 1
  | [] => by simp [cutP]
  | c :: l => by
    have ih := cutP_len (p := p) l
    unfold cutP
    split
    · simp; omega
    · rw [hd_len cutP_ne]; simp; omega
theorem cutP_part {p : UInt8 → Bool} : ∀ (l : Bs), ∀ w ∈ cutP p l, w.length ≤ l.length
  | [], w, h => by
    simp only [cutP, List.mem_singleton] at h
    subst h; simp
  | c :: l, w, h => by
    have ih := cutP_part (p := p) l
    unfold cutP at h
    split at h
    · rcases List.mem_cons.1 h with rfl | h
      · simp
      · have := ih w h; simp only [List.length_cons]; omega
    · cases hc : cutP p l with
      | nil => exact absurd hc cutP_ne
      | cons a t =>
        rw [hc] at h ih
        simp only [hd] at h
        rcases List.mem_cons.1 h with rfl | h
        · have := ih a (by simp); simp only [List.length_cons]; omega
        · have := ih w (by simp [h]); simp only [List.length_cons]; omega
theorem cutP_free {p : UInt8 → Bool} : ∀ (l : Bs), ∀ w ∈ cutP p l, ∀ x ∈ w, p x = false ∧ x ∈ l
  | [], w, h, x, hx => by
    simp only [cutP, List.mem_singleton] at h
    subst h; simp at hx
  | c :: l, w, h, x, hx => by
    have ih := cutP_free (p := p) l
    unfold cutP at h
    split at h
    · rcases List.mem_cons.1 h with rfl | h
      · simp at hx
      · have := ih w h x hx; exact ⟨this.1, by simp [this.2]⟩
    · rename_i hc
      cases hcp : cutP p l with
      | nil => exact absurd hcp cutP_ne
      | cons a t =>
        rw [hcp] at h ih
        simp only [hd] at h
        rcases List.mem_cons.1 h with rfl | h
        · rcases List.mem_cons.1 hx with rfl | hx
          · exact ⟨by simpa using hc, by simp⟩
          · have := ih a (by simp) x hx; exact ⟨this.1, by simp [this.2]⟩
        · have := ih w (by simp [h]) x hx; exact ⟨this.1, by simp [this.2]⟩
theorem cutP_app {p : UInt8 → Bool} : ∀ {a b : Bs} {h : Bs} {t : List Bs}, (∀ x ∈ a, p x = false) → cutP p b = h :: t → cutP p (a ++ b) = (a ++ h) :: t
  | [], b, h, t, _, hb => hb
  | c :: a, b, h, t, hc, hb => by
    have ih := cutP_app (a := a) (fun x hx => hc x (by simp [hx])) hb
    rw [List.cons_append, cutP, if_neg (by rw [hc c (by simp)]; simp), ih]
    rfl
theorem cutP_clean {p : UInt8 → Bool} {a : Bs} (h : ∀ x ∈ a, p x = false) : cutP p a = [a] := by
  have := cutP_app (b := []) h rfl
  simpa using this
theorem cutP_sep {p : UInt8 → Bool} {a b : Bs} {c : UInt8} (h : ∀ x ∈ a, p x = false) (hc : p c = true) : cutP p (a ++ c :: b) = a :: cutP p b := by
  have h1 : cutP p (c :: b) = [] :: cutP p b := by rw [cutP, if_pos hc]
  have := cutP_app h h1
  simpa using this

theorem until_nil {e : Int} : untilB e [] = [] := rfl
theorem until_stop {e : Int} {c : UInt8} {l : Bs} (h : (c.toNat : Int) = e) : untilB e (c :: l) = [] := by simp [untilB, h]
theorem until_go {e : Int} {c : UInt8} {l : Bs} (h : ¬ (c.toNat : Int) = e) : untilB e (c :: l) = c :: untilB e l := by simp [untilB, h]
theorem until_neg : ∀ (s : Bs), untilB (-1) s = s
  | [] => rfl
  | c :: s => by rw [until_go (by omega), until_neg s]
theorem until_app {e : Int} : ∀ {a b : Bs}, (∀ x ∈ a, ¬ (x.toNat : Int) = e) → untilB e (a ++ b) = a ++ untilB e b
  | [], _, _ => rfl
  | c :: a, b, h => by rw [List.cons_append, until_go (h c (by simp)), until_app fun x hx => h x (by simp [hx])]; rfl
theorem until_free {e : Int} : ∀ {s : Bs}, ∀ x ∈ untilB e s, ¬ (x.toNat : Int) = e
  | [], x, h => by simp [untilB] at h
  | c :: s, x, h => by
    by_cases hc : (c.toNat : Int) = e
    · rw [until_stop hc] at h; simp at h
    · rw [until_go hc] at h
      rcases List.mem_cons.1 h with rfl | h
      · exact hc
      · exact until_free x h
theorem until_len {e : Int} {s : Bs} : (untilB e s).length ≤ s.length := (List.takeWhile_sublist _).length_le
theorem parts_ne {p : UInt8 → Bool} {e : Int} {s : Bs} : parts p e s ≠ [] := cutP_ne
theorem parts_len {p : UInt8 → Bool} {e : Int} (s : Bs) : (parts p e s).length ≤ s.length + 1 := by
  have h1 := cutP_len (p := p) (untilB e s)
  have h2 := until_len (e := e) (s := s)
  unfold parts; omega
theorem parts_part {p : UInt8 → Bool} {e : Int} (s : Bs) : ∀ w ∈ parts p e s, w.length ≤ s.length := fun w hw => by
  have h1 := cutP_part _ w hw
  have h2 := until_len (e := e) (s := s)
  omega

/-! ### While it is parted -/
def Cl (p : UInt8 → Bool) (e : Int) (s : Bs) (a b : Nat) : Prop := ∀ j c, a ≤ j → j < b → s[j]? = some c → p c = false ∧ ¬ (c.toNat : Int) = e
def PI (p : UInt8 → Bool) (e : Int) (s : Bs) (fr i : Nat) (out : List Bs) : Prop := fr ≤ i ∧ i ≤ s.length ∧ Cl p e s fr i ∧ out ++ parts p e (s.drop fr) = parts p e s ∧ out.length ≤ fr
section
variable {p : UInt8 → Bool} {e : Int} {s : Bs} {fr i : Nat} {out : List Bs} {c : UInt8}
theorem pi_zero : PI p e s 0 0 [] := ⟨Nat.le_refl _, Nat.zero_le _, fun j _ _ h => by omega, rfl, Nat.le_refl _⟩
theorem pi_len (h : PI p e s fr i out) : fr ≤ i ∧ i ≤ s.length ∧ out.length ≤ fr := ⟨h.1, h.2.1, h.2.2.2.2⟩
theorem pi_skip {i' : Nat} (h : PI p e s fr i out) (h1 : i ≤ i') (h2 : i' ≤ s.length) (h3 : Cl p e s i i') : PI p e s fr i' out :=
  ⟨Nat.le_trans h.1 h1, h2, fun j c h4 h5 h6 => by
    by_cases hj : j < i
    · exact h.2.2.1 j c h4 hj h6
    · exact h3 j c (by omega) h5 h6, h.2.2.2⟩
theorem pi_next (h : PI p e s fr i out) (hc : s[i]? = some c) (hp : p c = false) (he : ¬ (c.toNat : Int) = e) : PI p e s fr (i + 1) out :=
  pi_skip h (by omega) (List.getElem?_eq_some_iff.1 hc).1 fun j x h1 h2 h3 => by
    have : j = i := by omega
    subst this
    rw [hc] at h3; cases h3
    exact ⟨hp, he⟩
theorem cl_mid (h : Cl p e s fr i) : ∀ x ∈ (s.drop fr).take (i - fr), p x = false ∧ ¬ (x.toNat : Int) = e := fun x hx => by
  obtain ⟨j, hj⟩ := List.mem_iff_getElem?.1 hx
  rw [List.getElem?_take] at hj
  split at hj
  · rw [List.getElem?_drop] at hj
    exact h (fr + j) x (by omega) (by omega) hj
  · cases hj
theorem drop_at (hc : s[i]? = some c) (h : fr ≤ i) : s.drop fr = (s.drop fr).take (i - fr) ++ c :: s.drop (i + 1) := by
  obtain ⟨hlt, rfl⟩ := List.getElem?_eq_some_iff.1 hc
  have h1 : (s.drop fr).drop (i - fr) = s.drop i := by rw [List.drop_drop]; congr 1; omega
  rw [← List.drop_eq_getElem_cons hlt, ← h1, List.take_append_drop]
theorem pi_cut (h : PI p e s fr i out) (hc : s[i]? = some c) (hp : p c = true) (he : ¬ (c.toNat : Int) = e) : PI p e s (i + 1) (i + 1) (out ++ [(s.drop fr).take (i - fr)]) := by
  have hlt := (List.getElem?_eq_some_iff.1 hc).1
  refine ⟨Nat.le_refl _, hlt, fun j _ h1 h2 => by omega, ?_, by have := h.2.2.2.2; have := h.1; simp; omega⟩
  have h1 := cl_mid h.2.2.1
  have h2 : parts p e (s.drop fr) = (s.drop fr).take (i - fr) :: parts p e (s.drop (i + 1)) := by
    unfold parts
    conv => lhs; rw [drop_at hc h.1]
    rw [until_app fun x hx => (h1 x hx).2, until_go he, cutP_sep (fun x hx => (h1 x hx).1) hp]
  rw [← h.2.2.2.1, h2, List.append_assoc]
  rfl
theorem pi_stop (h : PI p e s fr i out) (hc : s[i]? = some c) (he : (c.toNat : Int) = e) : out ++ [(s.take i).drop fr] = parts p e s := by
  have h1 := cl_mid h.2.2.1
  have h2 : parts p e (s.drop fr) = [(s.drop fr).take (i - fr)] := by
    unfold parts
    conv => lhs; rw [drop_at hc h.1]
    rw [until_app fun x hx => (h1 x hx).2, until_stop he, List.append_nil, cutP_clean fun x hx => (h1 x hx).1]
  rw [← h.2.2.2.1, h2, List.drop_take]
theorem pi_done (h : PI p e s fr i out) (hi : ¬ i < s.length) : out ++ [s.drop fr] = parts p e s := by
  have hi' : i = s.length := by have := h.2.1; omega
  subst hi'
  have h1 := cl_mid h.2.2.1
  rw [List.take_of_length_le (by rw [List.length_drop]; omega)] at h1
  have h2 : parts p e (s.drop fr) = [s.drop fr] := by
    unfold parts
    have h3 := until_app (e := e) (b := []) fun x hx => (h1 x hx).2
    rw [List.append_nil, until_nil, List.append_nil] at h3
    rw [h3, cutP_clean fun x hx => (h1 x hx).1]
  rw [← h.2.2.2.1, h2]
end

/-! ### Rune by rune -/
def spL (z : Int) : Bool := decide (z = 10)
def spW (z : Int) : Bool := decide (z = 32) || decide (z = 9)
theorem spL_big {z : Int} (h : 128 ≤ z) : spL z = false := by simp [spL]; omega
theorem spW_big {z : Int} (h : 128 ≤ z) : spW z = false := by simp [spW]; omega
theorem rune_num {s : Bs} {i : Nat} {b : UInt8} (hb : s[i]? = some b) : ((b.toNat < 128 ∧ (rune s i).1 = b.toNat ∧ (rune s i).2 = 1) ∨ (128 ≤ b.toNat ∧ 128 ≤ (rune s i).1 ∧ 1 ≤ (rune s i).2)) ∧ i + (rune s i).2 ≤ s.length := by
  have hlt := (List.getElem?_eq_some_iff.1 hb).1
  rcases rune_cases hb with ⟨h1, h2⟩ | ⟨h1, h2, h3, h4, _⟩
  · rw [h2]; exact ⟨.inl ⟨h1, rfl, rfl⟩, hlt⟩
  · exact ⟨.inr ⟨h1, h2, h3⟩, h4⟩
section
variable {sp : Int → Bool} {e : Int} {s : Bs} {fr i : Nat} {out : List Bs} {b : UInt8}
theorem pi_rune (hsp : ∀ z, 128 ≤ z → sp z = false) (he : e < 128) (h : PI (fun c => sp c.toNat) e s fr i out) (hb : s[i]? = some b) (h1 : sp ((rune s i).1 : Int) = false) (h2 : ¬ ((rune s i).1 : Int) = e) : PI (fun c => sp c.toNat) e s fr (i + (rune s i).2) out := by
  rcases rune_cases hb with ⟨h3, h4⟩ | ⟨h3, h4, h5, h6, h7⟩
  · rw [h4] at h1 h2 ⊢
    exact pi_next h hb h1 h2
  · refine pi_skip h (by omega) h6 fun j c hj hj2 hc => ?_
    have := h7 j c hj hj2 hc
    exact ⟨hsp _ (by omega), by omega⟩
theorem pi_cutR (hsp : ∀ z, 128 ≤ z → sp z = false) (h : PI (fun c => sp c.toNat) e s fr i out) (hb : s[i]? = some b) (h1 : sp ((rune s i).1 : Int) = true) (h2 : ¬ ((rune s i).1 : Int) = e) : PI (fun c => sp c.toNat) e s (i + 1) (i + (rune s i).2) (out ++ [(s.drop fr).take (i - fr)]) := by
  rcases rune_cases hb with ⟨h3, h4⟩ | ⟨h3, h4, h5, h6, h7⟩
  · rw [h4] at h1 h2 ⊢
    exact pi_cut h hb h1 h2
  · rw [hsp _ (by omega)] at h1; cases h1
theorem pi_stopR (he : e < 128) (h : PI (fun c => sp c.toNat) e s fr i out) (hb : s[i]? = some b) (h2 : ((rune s i).1 : Int) = e) : out ++ [(s.take i).drop fr] = parts (fun c => sp c.toNat) e s := by
  rcases rune_cases hb with ⟨h3, h4⟩ | ⟨h3, h4, h5, h6, h7⟩
  · rw [h4] at h2
    exact pi_stop h hb h2
  · omega
end

/-! ### Lines -/
def linesL (s : Bs) : List Bs := if (parts nl (-1) s).getLast? = some [] then (parts nl (-1) s).take ((parts nl (-1) s).length - 1) else parts nl (-1) s
theorem last_at {α : Type} {l : List α} {x : α} {n : Nat} (hn : n = l.length - 1) (h : l[n]? = some x) : l.getLast? = some x := by rw [List.getLast?_eq_getElem?, ← hn]; exact h
theorem lines_yes {s : Bs} {x : Bs} {n : Nat} (hn : n = (parts nl (-1) s).length - 1) (hx : (parts nl (-1) s)[n]? = some x) (h : (x == []) = true) : linesL s = (parts nl (-1) s).take n := by
  have : x = [] := by simpa using h
  subst this
  rw [linesL, if_pos (last_at hn hx), hn]
theorem lines_no {s : Bs} {x : Bs} {n : Nat} (hn : n = (parts nl (-1) s).length - 1) (hx : (parts nl (-1) s)[n]? = some x) (h : (x == []) = false) : linesL s = parts nl (-1) s := by
  rw [linesL, if_neg]
  rw [last_at hn hx]
  intro he
  cases he
  simp at h
theorem lines_len (s : Bs) : (linesL s).length ≤ s.length + 1 := by
  have := parts_len (p := nl) (e := -1) s
  unfold linesL
  split
  · rw [List.length_take]; omega
  · exact this
theorem lines_part (s : Bs) : ∀ w ∈ linesL s, w.length ≤ s.length := fun w hw => by
  unfold linesL at hw
  split at hw
  · exact parts_part s w (List.mem_of_mem_take hw)
  · exact parts_part s w hw

/-! ### Words -/
def flt (l : List Bs) : List Bs := l.filter fun w => !(w == [])
def wordsL (s : Bs) : List Bs := flt (parts bl 35 s)
theorem flt_app (a b : List Bs) : flt (a ++ b) = flt a ++ flt b := List.filter_append ..
theorem flt_yes {w : Bs} (l : List Bs) (h : (w == []) = false) : flt (w :: l) = w :: flt l := by simp only [flt, List.filter_cons, h]; rfl
theorem flt_no {w : Bs} (l : List Bs) (h : (w == []) = true) : flt (w :: l) = flt l := by simp only [flt, List.filter_cons, h]; rfl
theorem flt_next1 {l : List Bs} {k : Nat} {w : Bs} (hw : l[k]? = some w) (h : (w == []) = false) : flt (l.take (k + 1)) = flt (l.take k) ++ [w] := by
  obtain ⟨hlt, rfl⟩ := List.getElem?_eq_some_iff.1 hw
  rw [List.take_succ_eq_append_getElem hlt, flt_app, flt_yes _ h]; rfl
theorem flt_next0 {l : List Bs} {k : Nat} {w : Bs} (hw : l[k]? = some w) (h : (w == []) = true) : flt (l.take (k + 1)) = flt (l.take k) := by
  obtain ⟨hlt, rfl⟩ := List.getElem?_eq_some_iff.1 hw
  rw [List.take_succ_eq_append_getElem hlt, flt_app, flt_no _ h]; exact List.append_nil _
theorem flt_le (l : List Bs) : (flt l).length ≤ l.length := List.length_filter_le ..
theorem words_len (s : Bs) : (wordsL s).length ≤ s.length + 1 := by
  have h1 := flt_le (parts bl 35 s)
  have h2 := parts_len (p := bl) (e := 35) s
  unfold wordsL; omega
theorem words_part (s : Bs) : ∀ w ∈ wordsL s, w.length ≤ s.length := fun w hw => parts_part s w (List.mem_filter.1 hw).1

section
variable {s : Bs} {i : Nat} {out : List Bs} {w : Bs} {c : UInt8}
theorem bl_no (h1 : ¬ (c.toNat : Int) = 32) (h2 : ¬ (c.toNat : Int) = 9) : bl c = false := by simp [bl, h1, h2]
end

/-! ### Joined -/
theorem join_snoc (sep : Bs) : ∀ (xs : List Bs) (x : Bs), Lib.join (xs ++ [x]) sep = if xs = [] then x else Lib.join xs sep ++ sep ++ x
  | [], x => by rw [List.nil_append, Lib.join_one, if_pos rfl]
  | y :: ys, x => by
    rw [if_neg (by simp), List.cons_append, Lib.join_cons, Lib.join_cons]
    unfold Lib.joinTail
    rw [List.map_append, List.flatten_append]
    simp
theorem join_cons2 {sep t : Bs} {r : List Bs} (h : r ≠ []) : Lib.join (t :: r) sep = t ++ (sep ++ Lib.join r sep) := by
  cases r with
  | nil => exact absurd rfl h
  | cons u r =>
    rw [Lib.join_cons, Lib.join_cons]
    unfold Lib.joinTail
    simp
/-- The first k, joined. -/
def joinK (l : List Bs) (k : Nat) : Bs := Lib.join (l.take k) [32]
theorem joinK_zero {l : List Bs} : joinK l 0 = [] := rfl
theorem joinK_next {l : List Bs} {k : Nat} {x : Bs} (hx : l[k]? = some x) : joinK l (k + 1) = if k = 0 then x else joinK l k ++ [32] ++ x := by
  obtain ⟨hlt, rfl⟩ := List.getElem?_eq_some_iff.1 hx
  unfold joinK
  rw [List.take_succ_eq_append_getElem hlt, join_snoc]
  by_cases h : k = 0
  · subst h; simp
  · rw [if_neg (fun he => by
      have h2 := congrArg List.length he
      rw [List.length_take, List.length_nil] at h2
      omega), if_neg h]
theorem joinK_all {l : List Bs} {k : Nat} (h : l.length ≤ k) : joinK l k = Lib.join l [32] := by unfold joinK; rw [List.take_of_length_le h]
theorem joinK_le (l : List Bs) (b : Nat) (h : ∀ x ∈ l, x.length ≤ b) : ∀ (k : Nat), (joinK l k).length ≤ (b + 1) * k
  | 0 => by simp [joinK_zero]
  | k + 1 => by
    have ih := joinK_le l b h k
    have hm : (b + 1) * (k + 1) = (b + 1) * k + (b + 1) := Nat.mul_succ _ _
    cases hx : l[k]? with
    | none =>
      have h1 : l.take (k + 1) = l.take k := by
        have := List.getElem?_eq_none_iff.1 hx
        rw [List.take_of_length_le (by omega), List.take_of_length_le this]
      unfold joinK at ih ⊢
      rw [h1]
      omega
    | some x =>
      rw [joinK_next hx]
      have hl := h x (List.mem_of_getElem? hx)
      split
      · omega
      · simp only [List.length_append, List.length_cons, List.length_nil]; omega
theorem join_le (l : List Bs) (b : Nat) (h : ∀ x ∈ l, x.length ≤ b) : (Lib.join l [32]).length ≤ (b + 1) * l.length := by
  rw [← joinK_all (Nat.le_refl _)]; exact joinK_le l b h _

/-- The words of words. -/
def Word (w : Bs) : Prop := w ≠ [] ∧ ∀ x ∈ w, bl x = false ∧ ¬ (x.toNat : Int) = 35
theorem words_Word (s : Bs) : ∀ w ∈ wordsL s, Word w := fun w hw => by
  obtain ⟨h1, h2⟩ := List.mem_filter.1 hw
  refine ⟨by simpa using h2, fun x hx => ?_⟩
  have h3 := cutP_free _ w h1 x hx
  exact ⟨h3.1, until_free x h3.2⟩
theorem Word.f {w : Bs} (h : Word w) : (w == []) = false := by simpa using h.1
theorem wordsL_nil : wordsL [] = [] := rfl
theorem wordsL_blank {c : UInt8} (s : Bs) (h : bl c = true) (h35 : ¬ (c.toNat : Int) = 35) : wordsL (c :: s) = wordsL s := by
  unfold wordsL parts
  rw [until_go h35, cutP, if_pos h]; rfl
theorem wordsL_word {w s : Bs} (h : Word w) (hs : s = [] ∨ (∃ c t, s = c :: t ∧ (bl c = true ∨ (c.toNat : Int) = 35))) : wordsL (w ++ s) = w :: wordsL s := by
  unfold wordsL parts
  rw [until_app fun x hx => (h.2 x hx).2]
  have hc : cutP bl (untilB 35 s) = [] :: (cutP bl (untilB 35 s)).tail := by
    rcases hs with rfl | ⟨c, t, rfl, hc⟩
    · rfl
    · by_cases h35 : (c.toNat : Int) = 35
      · rw [until_stop h35]; rfl
      · rcases hc with hc | hc
        · rw [until_go h35, cutP, if_pos hc]; rfl
        · exact absurd hc h35
  rw [cutP_app (fun x hx => (h.2 x hx).1) hc, List.append_nil, flt_yes _ h.f]
  congr 1
  conv => rhs; rw [hc]
  rfl
theorem bl_32 : bl 32 = true := rfl
theorem wordsL_join : ∀ (l : List Bs) (s : Bs), l ≠ [] → (∀ w ∈ l, Word w) → (s = [] ∨ (∃ c t, s = c :: t ∧ (bl c = true ∨ (c.toNat : Int) = 35))) → wordsL (Lib.join l [32] ++ s) = l ++ wordsL s
  | [], _, h, _, _ => absurd rfl h
  | [w], s, _, h, hs => by
    rw [Lib.join_one, wordsL_word (h w (by simp)) hs]; rfl
  | w :: u :: r, s, _, h, hs => by
    have ih := wordsL_join (u :: r) s (by simp) (fun x hx => h x (List.mem_cons_of_mem _ hx)) hs
    rw [join_cons2 (by simp), List.append_assoc, wordsL_word (h w (by simp)) (.inr ⟨32, Lib.join (u :: r) [32] ++ s, by simp, .inl bl_32⟩)]
    rw [show [32] ++ Lib.join (u :: r) [32] ++ s = 32 :: (Lib.join (u :: r) [32] ++ s) from rfl, wordsL_blank _ bl_32 (by decide), ih]
    rfl
theorem words_join {l : List Bs} (h0 : l ≠ []) (h : ∀ w ∈ l, Word w) : wordsL (Lib.join l [32]) = l := by
  have := wordsL_join l [] h0 h (.inl rfl)
  simpa [wordsL_nil] using this

/-! ### Cut at a byte -/
def noB (e : UInt8) (s : Bs) (i : Nat) : Prop := ∀ j c, j < i → s[j]? = some c → c ≠ e
theorem occ_B {e : UInt8} {s : Bs} {i : Nat} : Lib.occAt s [e] i = true ↔ s[i]? = some e := by
  unfold Lib.occAt
  rw [List.isPrefixOf_iff_prefix]
  constructor
  · rintro ⟨t, ht⟩
    have h := congrArg (·[0]?) ht
    simp only [List.cons_append, List.getElem?_cons_zero, List.getElem?_drop, Nat.add_zero] at h
    exact h.symm
  · intro h
    obtain ⟨hlt, he⟩ := List.getElem?_eq_some_iff.1 h
    refine ⟨s.drop (i + 1), ?_⟩
    rw [List.drop_eq_getElem_cons hlt, he]
    rfl
theorem noOcc_B {e : UInt8} {s : Bs} {i : Nat} (h : noB e s i) : Lib.NoOcc s [e] i := fun j hj => by
  cases ho : Lib.occAt s [e] j with
  | false => rfl
  | true => exact absurd rfl (h j e hj (occ_B.1 ho))
theorem cut_B {e : UInt8} {s : Bs} {i : Nat} (h : noB e s i) (hb : s[i]? = some e) : Lib.cut s [e] = (s.take i, s.drop (i + 1), true) := by
  have hlt := (List.getElem?_eq_some_iff.1 hb).1
  have hi := Lib.index_hit (noOcc_B h) (by omega) (occ_B.2 hb)
  unfold Lib.cut
  rw [hi, if_pos (by omega)]
  simp
/-- A word's name and value. -/
def cutL (w : Bs) : Bs × Bs × Bool := if (Lib.cut w [61]).2.2 then Lib.cut w [61] else ([], [], false)
theorem cutL_no {w : Bs} (h : (Lib.cut w [61]).2.2 = false) : cutL w = ([], [], false) := by rw [cutL, h]; rfl
theorem cutL_yes {w : Bs} (h : (Lib.cut w [61]).2.2 = true) : cutL w = ((Lib.cut w [61]).1, (Lib.cut w [61]).2.1, true) := by rw [cutL, h]; simp [← h]
theorem cut_len (w : Bs) : (Lib.cut w [61]).1.length ≤ w.length ∧ (Lib.cut w [61]).2.1.length ≤ w.length := by
  unfold Lib.cut
  split
  · exact ⟨by simp only [List.length_take]; omega, by simp only [List.length_drop]; omega⟩
  · exact ⟨Nat.le_refl _, Nat.zero_le _⟩
theorem cutL_len (w : Bs) : (cutL w).1.length ≤ w.length ∧ (cutL w).2.1.length ≤ w.length := by
  unfold cutL
  split
  · exact cut_len w
  · exact ⟨Nat.zero_le _, Nat.zero_le _⟩
theorem eq_61 {b : UInt8} (h : (b.toNat : Int) = 61) : b = 61 := UInt8.toNat_inj.1 (by show b.toNat = 61; omega)
theorem cutL_hit {w : Bs} {i : Nat} {b : UInt8} (h : noB 61 w i) (hb : w[i]? = some b) (h61 : (b.toNat : Int) = 61) : cutL w = (w.take i, w.drop (i + 1), true) := by
  have := eq_61 h61
  subst this
  have hc := cut_B h hb
  rw [cutL_yes (by rw [hc]), hc]
theorem cutL_name {a b : Bs} (h : ∀ x ∈ a, x ≠ 61) : cutL (a ++ 61 :: b) = (a, b, true) := by
  have h1 : noB 61 (a ++ 61 :: b) a.length := fun j c hj hc => by
    rw [List.getElem?_append_left hj] at hc
    exact h c (List.mem_of_getElem? hc)
  have h2 : (a ++ 61 :: b)[a.length]? = some 61 := by rw [List.getElem?_append_right (Nat.le_refl _)]; simp
  rw [cutL_hit h1 h2 (by decide)]
  have h3 : (a ++ 61 :: b).take a.length = a := by simp
  have h4 : (a ++ 61 :: b).drop (a.length + 1) = b := by rw [← List.drop_drop]; simp
  rw [h3, h4]

/-! ### The first place of a word -/
def findL (w : Bs) : List Bs → Option Nat
  | [] => none
  | x :: l => if x = w then some 0 else (findL w l).map (· + 1)
def findR (w : Bs) (l : List Bs) : Int × Bool := match findL w l with | some k => (k, true) | none => (0, false)
end Go.LK.Wd

namespace Go.LK.Wd
open Go Go.LK
/-! ### Texts of numbers are words -/
theorem itoa_byte {n : Int} : ∀ c ∈ Lib.itoa n, c.toNat = 45 ∨ Dc.isD c := fun c hc => by
  by_cases h : n < 0
  · rw [Dc.itoa_min h] at hc
    rcases List.mem_cons.1 hc with rfl | hc
    · exact .inl rfl
    · exact .inr (Dc.dec_isD _ c hc)
  · rw [Dc.itoa_pos (by omega)] at hc
    exact .inr (Dc.dec_isD _ c hc)
theorem itoa_ne (n : Int) : Lib.itoa n ≠ [] := by
  by_cases h : n < 0
  · rw [Dc.itoa_min h]; simp
  · rw [Dc.itoa_pos (by omega)]; exact Dc.dec_ne _
theorem plain_byte {c : UInt8} (h : c.toNat = 45 ∨ Dc.isD c) : bl c = false ∧ ¬ (c.toNat : Int) = 35 := by
  unfold Dc.isD at h
  exact ⟨bl_no (by omega) (by omega), by omega⟩
theorem itoa_le2 {n : Int} (h : Dc.I64 n) : (Lib.itoa n).length ≤ 21 := Lib.itoa_length_le n h.1 h.2
theorem itoa_word (n : Int) : Word (Lib.itoa n) := ⟨itoa_ne n, fun c hc => plain_byte (itoa_byte c hc)⟩
/-- name=number -/
def nv (name : Bs) (n : Int) : Bs := name ++ [61] ++ Lib.itoa n
theorem nv_word {name : Bs} (h : ∀ x ∈ name, bl x = false ∧ ¬ (x.toNat : Int) = 35) (n : Int) : Word (nv name n) := by
  refine ⟨by simp [nv], fun c hc => ?_⟩
  unfold nv at hc
  rcases List.mem_append.1 hc with hc | hc
  · rcases List.mem_append.1 hc with hc | hc
    · exact h c hc
    · simp at hc; subst hc; exact ⟨rfl, by decide⟩
  · exact (itoa_word n).2 c hc
theorem nv_cut {name : Bs} (h : ∀ x ∈ name, x ≠ 61) (n : Int) : cutL (nv name n) = (name, Lib.itoa n, true) := by
  unfold nv
  rw [List.append_assoc]
  exact cutL_name h
theorem words_cut {s w : Bs} {k : Nat} (h : (wordsL s)[k]? = some w) : w.length ≤ s.length ∧ (cutL w).1.length ≤ s.length ∧ (cutL w).2.1.length ≤ s.length := by
  have h1 := words_part s w (List.mem_of_getElem? h)
  have h2 := cutL_len w
  omega
theorem nv_len {name : Bs} {n : Int} (h : Dc.I64 n) : (nv name n).length ≤ name.length + 22 := by
  have := Lib.itoa_length_le n h.1 h.2
  simp only [nv, List.length_append, List.length_cons, List.length_nil]; omega
end Go.LK.Wd
namespace Go.LK.Kn
open Go Go.LK Go.LK.Wd
def names : List Bs := [[108, 111, 119], [104, 105, 103, 104], [99, 117, 116], [108, 105, 102, 116], [102, 108, 111, 111, 114], [116, 117, 114, 110], [100, 119, 101, 108, 108]]
theorem names_word : ∀ w ∈ names, ∀ x ∈ w, bl x = false ∧ ¬ (x.toNat : Int) = 35 := by decide
theorem names_eq : ∀ w ∈ names, ∀ x ∈ w, x ≠ 61 := by decide
theorem names_len : ∀ w ∈ names, w.length ≤ 5 := by decide
/-- The words of settings. -/
def wordsOf (l : List Int) : List Bs := (names.zip l).map fun p => nv p.1 p.2
def text (l : List Int) : Bs := Lib.join (wordsOf l) [32]
theorem wordsOf_len {l : List Int} (h : l.length = 7) : (wordsOf l).length = 7 := by simp [wordsOf, names, h]
theorem wordsOf_at {l : List Int} {k : Nat} {n : Bs} {x : Int} (hn : names[k]? = some n) (hx : l[k]? = some x) : (wordsOf l)[k]? = some (nv n x) := by
  unfold wordsOf
  rw [List.getElem?_map, show (names.zip l)[k]? = some (n, x) from List.getElem?_zip_eq_some.2 ⟨hn, hx⟩]; rfl
theorem wordsOf_mem {l : List Int} {w : Bs} (h : w ∈ wordsOf l) : ∃ n ∈ names, ∃ x ∈ l, w = nv n x := by
  obtain ⟨⟨n, x⟩, hp, rfl⟩ := List.mem_map.1 h
  exact ⟨n, (List.of_mem_zip hp).1, x, (List.of_mem_zip hp).2, rfl⟩
theorem wordsOf_word {l : List Int} : ∀ w ∈ wordsOf l, Word w := fun w h => by
  obtain ⟨n, hn, x, _, rfl⟩ := wordsOf_mem h
  exact nv_word (names_word n hn) x
def I64s (l : List Int) : Prop := ∀ x ∈ l, Dc.I64 x
theorem wordsOf_le {l : List Int} (hI : I64s l) : ∀ w ∈ wordsOf l, w.length ≤ 27 := fun w h => by
  obtain ⟨n, hn, x, hx, rfl⟩ := wordsOf_mem h
  have h1 := nv_len (name := n) (hI x hx)
  have h2 := names_len n hn
  omega
theorem text_len {l : List Int} (h : l.length = 7) (hI : I64s l) : (text l).length ≤ 196 := by
  have := join_le (wordsOf l) 27 (wordsOf_le hI)
  rw [wordsOf_len h] at this
  exact this

/-- The numbers of the first k words, if they are named so. -/
def nums (ws : List Bs) : Nat → Option (List Int)
  | 0 => some []
  | k + 1 => match nums ws k, ws[k]?, names[k]? with
    | some out, some w, some n => if (cutL w).1 = n ∧ (Dc.parse (cutL w).2.1).2 = 0 then some (out ++ [(Dc.parse (cutL w).2.1).1]) else none
    | _, _, _ => none
section
variable {ws : List Bs} {k : Nat} {out : List Int} {w n : Bs}
theorem nums_next (h : nums ws k = some out) (hw : ws[k]? = some w) (hn : names[k]? = some n) (h1 : (cutL w).1 = n) (h2 : (Dc.parse (cutL w).2.1).2 = 0) : nums ws (k + 1) = some (out ++ [(Dc.parse (cutL w).2.1).1]) := by
  simp [nums, h, hw, hn, h1, h2]
theorem nums_stop (h : nums ws k = some out) (hw : ws[k]? = some w) (hn : names[k]? = some n) (h1 : ¬ ((cutL w).1 = n ∧ (Dc.parse (cutL w).2.1).2 = 0)) : ∀ m, k < m → nums ws m = none := by
  intro m
  induction m with
  | zero => intro h; omega
  | succ m ih =>
    intro hm
    by_cases he : m = k
    · subst he; simp only [nums, h, hw, hn, if_neg h1]
    · simp [nums, ih (by omega)]
theorem nums_len : ∀ {k : Nat} {out : List Int}, nums ws k = some out → out.length = k
  | 0, out, h => by cases h; rfl
  | k + 1, out, h => by
    unfold nums at h
    split at h
    · rename_i o w n h1 h2 h3
      split at h
      · cases h; simp [nums_len h1]
      · cases h
    · cases h
end
def zeros : List Int := [0, 0, 0, 0, 0, 0, 0]
def parse (s : Bs) : List Int × Int := if (wordsL s).length = 7 then (match nums (wordsL s) 7 with | some out => (out, 0) | none => (zeros, 2)) else (zeros, 2)
theorem parse_bad {s : Bs} {k : Nat} {out : List Int} {w n : Bs} (h7 : (wordsL s).length = 7) (h : nums (wordsL s) k = some out) (hw : (wordsL s)[k]? = some w) (hn : names[k]? = some n) (h1 : ¬ ((cutL w).1 = n ∧ (Dc.parse (cutL w).2.1).2 = 0)) : parse s = (zeros, 2) := by
  have hk : k < 7 := by rw [← h7]; exact (List.getElem?_eq_some_iff.1 hw).1
  rw [parse, if_pos h7, nums_stop h hw hn h1 7 hk]
theorem parse_all {s : Bs} {out : List Int} (h7 : (wordsL s).length = 7) (h : nums (wordsL s) 7 = some out) : parse s = (out, 0) := by rw [parse, if_pos h7, h]
theorem parse_len (s : Bs) : (parse s).1.length = 7 := by
  unfold parse
  split
  · split
    · rename_i h; exact nums_len h
    · rfl
  · rfl

/-! ### Back -/
theorem nums_back {l : List Int} (h : l.length = 7) (hI : I64s l) : ∀ k, k ≤ 7 → nums (wordsOf l) k = some (l.take k)
  | 0, _ => rfl
  | k + 1, hk => by
    have ih := nums_back h hI k (by omega)
    obtain ⟨n, hn⟩ : ∃ n, names[k]? = some n := ⟨_, List.getElem?_eq_getElem (by show k < 7; omega)⟩
    obtain ⟨x, hx⟩ : ∃ x, l[k]? = some x := ⟨_, List.getElem?_eq_getElem (by omega)⟩
    have hc := nv_cut (names_eq n (List.mem_of_getElem? hn)) x
    have hp := Dc.parse_some (hI x (List.mem_of_getElem? hx))
    rw [nums_next ih (wordsOf_at hn hx) hn (by rw [hc]) (by rw [hc, hp]), hc, hp]
    obtain ⟨hlt, rfl⟩ := List.getElem?_eq_some_iff.1 hx
    rw [List.take_succ_eq_append_getElem hlt]
theorem words_text {l : List Int} (h : l.length = 7) (s : Bs) (hs : s = [] ∨ (∃ c t, s = c :: t ∧ (bl c = true ∨ (c.toNat : Int) = 35))) : wordsL (text l ++ s) = wordsOf l ++ wordsL s :=
  wordsL_join (wordsOf l) s (fun he => by have := wordsOf_len h; rw [he] at this; cases this) wordsOf_word hs
theorem parse_words {s : Bs} {l : List Int} (h : l.length = 7) (hI : I64s l) (hw : wordsL s = wordsOf l) : parse s = (l, 0) := by
  have h7 := wordsOf_len h
  refine (parse_all (by rw [hw, h7]) (out := l.take 7) (by rw [hw]; exact nums_back h hI 7 (Nat.le_refl _))).trans ?_
  rw [List.take_of_length_le (by omega)]
theorem back {l : List Int} (h : l.length = 7) (hI : I64s l) : parse (text l) = (l, 0) := parse_words h hI (by
  have := words_text h [] (.inl rfl)
  simpa [wordsL_nil] using this)

/-! ### Which may be -/
def ok (l : List Int) (m : Int) : Bool := match l with
  | [a, b, c, d, e, f, g] => decide (1 ≤ m) && decide (m ≤ 128) && decide (0 ≤ a) && decide (a ≤ b) && decide (0 ≤ b) && decide (b ≤ 10000) && decide (1 ≤ c) && decide (c ≤ 99) && decide (1 ≤ d) && decide (d ≤ 100) && decide (0 ≤ e) && decide (e ≤ m) && decide (1 ≤ f) && decide (f ≤ 32) && decide (1 ≤ g) && decide (g ≤ 32)
  | _ => false
def check (l : List Int) (m : Int) : Int := if ok l m then 0 else 10
/-! ### The document's text -/
section
variable {a b c d e f g m : Int}
def May (a b c d e f g m : Int) : Prop := 1 ≤ m ∧ m ≤ 128 ∧ 0 ≤ a ∧ a ≤ b ∧ 0 ≤ b ∧ b ≤ 10000 ∧ 1 ≤ c ∧ c ≤ 99 ∧ 1 ≤ d ∧ d ≤ 100 ∧ 0 ≤ e ∧ e ≤ m ∧ 1 ≤ f ∧ f ≤ 32 ∧ 1 ≤ g ∧ g ≤ 32
theorem ok_iff : ok [a, b, c, d, e, f, g] m = true ↔ May a b c d e f g m := by
  simp only [ok, Bool.and_eq_true, decide_eq_true_eq, May]
  constructor
  · rintro ⟨⟨⟨⟨⟨⟨⟨⟨⟨⟨⟨⟨⟨⟨⟨h1, h2⟩, h3⟩, h4⟩, h5⟩, h6⟩, h7⟩, h8⟩, h9⟩, h10⟩, h11⟩, h12⟩, h13⟩, h14⟩, h15⟩, h16⟩
    exact ⟨h1, h2, h3, h4, h5, h6, h7, h8, h9, h10, h11, h12, h13, h14, h15, h16⟩
  · rintro ⟨h1, h2, h3, h4, h5, h6, h7, h8, h9, h10, h11, h12, h13, h14, h15, h16⟩
    exact ⟨⟨⟨⟨⟨⟨⟨⟨⟨⟨⟨⟨⟨⟨⟨h1, h2⟩, h3⟩, h4⟩, h5⟩, h6⟩, h7⟩, h8⟩, h9⟩, h10⟩, h11⟩, h12⟩, h13⟩, h14⟩, h15⟩, h16⟩
theorem check_yes (h : 1 ≤ m ∧ m ≤ 128 ∧ 0 ≤ a ∧ a ≤ b ∧ 0 ≤ b ∧ b ≤ 10000 ∧ 1 ≤ c ∧ c ≤ 99 ∧ 1 ≤ d ∧ d ≤ 100 ∧ 0 ≤ e ∧ e ≤ m ∧ 1 ≤ f ∧ f ≤ 32 ∧ 1 ≤ g ∧ g ≤ 32) : check [a, b, c, d, e, f, g] m = 0 := by
  rw [check, if_pos (ok_iff.2 h)]
theorem check_no (h : ¬ (1 ≤ m ∧ m ≤ 128 ∧ 0 ≤ a ∧ a ≤ b ∧ 0 ≤ b ∧ b ≤ 10000 ∧ 1 ≤ c ∧ c ≤ 99 ∧ 1 ≤ d ∧ d ≤ 100 ∧ 0 ≤ e ∧ e ≤ m ∧ 1 ≤ f ∧ f ≤ 32 ∧ 1 ≤ g ∧ g ≤ 32)) : check [a, b, c, d, e, f, g] m = 10 := by
  rw [check, if_neg fun hc => h (ok_iff.1 hc)]
end
theorem list7 {l : List Int} {a b c d e f g : Int} (h : l.length = 7) (h0 : l[0]? = some a) (h1 : l[1]? = some b) (h2 : l[2]? = some c) (h3 : l[3]? = some d) (h4 : l[4]? = some e) (h5 : l[5]? = some f) (h6 : l[6]? = some g) : l = [a, b, c, d, e, f, g] := by
  match l, h with
  | [_, _, _, _, _, _, _], _ => simp at h0 h1 h2 h3 h4 h5 h6; simp [h0, h1, h2, h3, h4, h5, h6]
theorem put_at {out : List Int} {k : Nat} {v : Int} (h : out.length = k) (hk : k < 7) : (out ++ List.replicate (7 - k) 0).set k v = (out ++ [v]) ++ List.replicate (7 - (k + 1)) 0 := by
  rw [List.set_append_right _ _ (by omega), h, Nat.sub_self, show 7 - k = (7 - (k + 1)) + 1 from by omega, List.replicate_succ, List.set_cons_zero]
  simp
/-- Settings with another number. -/
def set (l : List Int) (name : Bs) (v : Int) : List Int × Int := if (findR name names).2 then (l.set (findR name names).1.toNat v, 0) else (zeros, 7)
end Go.LK.Kn
