/-
  The plain law of settings: their text, a text's settings, and back.
-/
import Derived.Test.YtilcmkegbmppnaaDoorWords0
import Derived.Test.YtilcmkegbmppnaaDoorDec1
import Derived.Test.YtilcmkegbmppnaaDoorLk24
namespace Go.LK.Wd
open Go Go.LK
/-! ### Texts of numbers are words -/
theorem itoa_byte {n : Int} : ∀ c ∈ Lib.itoa n, c.toNat = 45 ∨ Dc.isD c := fun c hc => by
  by_cases h : n < 0
  · rw [Dc.itoa_min h] at hc
    rcases List.mem_cons.1 hc with rfl | hc
    · exact .inl rfl
    · exact .inr (Dc.dec_isD _ c hc)
  · rw [Dc.itoa_pos (by omega)] at hc
    exact .inr (Dc.dec_isD _ c hc)
theorem itoa_ne (n : Int) : Lib.itoa n ≠ [] := by
  by_cases h : n < 0
  · rw [Dc.itoa_min h]; simp
  · rw [Dc.itoa_pos (by omega)]; exact Dc.dec_ne _
theorem plain_byte {c : UInt8} (h : c.toNat = 45 ∨ Dc.isD c) : bl c = false ∧ ¬ (c.toNat : Int) = 35 := by
  unfold Dc.isD at h
  exact ⟨bl_no (by omega) (by omega), by omega⟩
theorem itoa_le2 {n : Int} (h : Dc.I64 n) : (Lib.itoa n).length ≤ 21 := Lib.itoa_length_le n h.1 h.2
theorem itoa_word (n : Int) : Word (Lib.itoa n) := ⟨itoa_ne n, fun c hc => plain_byte (itoa_byte c hc)⟩
/-- name=number -/
def nv (name : Bs) (n : Int) : Bs := name ++ [61] ++ Lib.itoa n
theorem nv_word {name : Bs} (h : ∀ x ∈ name, bl x = false ∧ ¬ (x.toNat : Int) = 35) (n : Int) : Word (nv name n) := by
  refine ⟨by simp [nv], fun c hc => ?_⟩
  unfold nv at hc
  rcases List.mem_append.1 hc with hc | hc
  · rcases List.mem_append.1 hc with hc | hc
    · exact h c hc
    · simp at hc; subst hc; exact ⟨rfl, by decide⟩
  · exact (itoa_word n).2 c hc
theorem nv_cut {name : Bs} (h : ∀ x ∈ name, x ≠ 61) (n : Int) : cutL (nv name n) = (name, Lib.itoa n, true) := by
  unfold nv
  rw [List.append_assoc]
  exact cutL_name h
theorem words_cut {s w : Bs} {k : Nat} (h : (wordsL s)[k]? = some w) : w.length ≤ s.length ∧ (cutL w).1.length ≤ s.length ∧ (cutL w).2.1.length ≤ s.length := by
  have h1 := words_part s w (List.mem_of_getElem? h)
  have h2 := cutL_len w
  omega
theorem nv_len {name : Bs} {n : Int} (h : Dc.I64 n) : (nv name n).length ≤ name.length + 22 := by
  have := Lib.itoa_length_le n h.1 h.2
  simp only [nv, List.length_append, List.length_cons, List.length_nil]; omega
end Go.LK.Wd
namespace Go.LK.Kn
open Go Go.LK Go.LK.Wd
def names : List Bs := [[108, 111, 119], [104, 105, 103, 104], [99, 117, 116], [108, 105, 102, 116], [102, 108, 111, 111, 114], [116, 117, 114, 110], [100, 119, 101, 108, 108]]
theorem names_word : ∀ w ∈ names, ∀ x ∈ w, bl x = false ∧ ¬ (x.toNat : Int) = 35 := by decide
theorem names_eq : ∀ w ∈ names, ∀ x ∈ w, x ≠ 61 := by decide
theorem names_len : ∀ w ∈ names, w.length ≤ 5 := by decide
/-- The words of settings. -/
def wordsOf (l : List Int) : List Bs := (names.zip l).map fun p => nv p.1 p.2
def text (l : List Int) : Bs := Lib.join (wordsOf l) [32]
theorem wordsOf_len {l : List Int} (h : l.length = 7) : (wordsOf l).length = 7 := by simp [wordsOf, names, h]
theorem wordsOf_at {l : List Int} {k : Nat} {n : Bs} {x : Int} (hn : names[k]? = some n) (hx : l[k]? = some x) : (wordsOf l)[k]? = some (nv n x) := by
  unfold wordsOf
  rw [List.getElem?_map, show (names.zip l)[k]? = some (n, x) from List.getElem?_zip_eq_some.2 ⟨hn, hx⟩]; rfl
theorem wordsOf_next {l : List Int} {k : Nat} {n : Bs} {x : Int} (hn : names[k]? = some n) (hx : l[k]? = some x) : (wordsOf l).take (k + 1) = (wordsOf l).take k ++ [nv n x] := by
  have h := wordsOf_at hn hx
  obtain ⟨hlt, he⟩ := List.getElem?_eq_some_iff.1 h
  rw [List.take_succ_eq_append_getElem hlt, he]
theorem wordsOf_mem {l : List Int} {w : Bs} (h : w ∈ wordsOf l) : ∃ n ∈ names, ∃ x ∈ l, w = nv n x := by
  obtain ⟨⟨n, x⟩, hp, rfl⟩ := List.mem_map.1 h
  exact ⟨n, (List.of_mem_zip hp).1, x, (List.of_mem_zip hp).2, rfl⟩
theorem wordsOf_word {l : List Int} : ∀ w ∈ wordsOf l, Word w := fun w h => by
  obtain ⟨n, hn, x, _, rfl⟩ := wordsOf_mem h
  exact nv_word (names_word n hn) x
def I64s (l : List Int) : Prop := ∀ x ∈ l, Dc.I64 x
theorem wordsOf_le {l : List Int} (hI : I64s l) : ∀ w ∈ wordsOf l, w.length ≤ 27 := fun w h => by
  obtain ⟨n, hn, x, hx, rfl⟩ := wordsOf_mem h
  have h1 := nv_len (name := n) (hI x hx)
  have h2 := names_len n hn
  omega
theorem text_len {l : List Int} (h : l.length = 7) (hI : I64s l) : (text l).length ≤ 196 := by
  have := join_le (wordsOf l) 27 (wordsOf_le hI)
  rw [wordsOf_len h] at this
  exact this

/-- The numbers of the first k words, if they are named so. -/
def nums (ws : List Bs) : Nat → Option (List Int)
  | 0 => some []
  | k + 1 => match nums ws k, ws[k]?, names[k]? with
    | some out, some w, some n => if (cutL w).1 = n ∧ (Dc.parse (cutL w).2.1).2 = 0 then some (out ++ [(Dc.parse (cutL w).2.1).1]) else none
    | _, _, _ => none
section
variable {ws : List Bs} {k : Nat} {out : List Int} {w n : Bs}
theorem nums_next (h : nums ws k = some out) (hw : ws[k]? = some w) (hn : names[k]? = some n) (h1 : (cutL w).1 = n) (h2 : (Dc.parse (cutL w).2.1).2 = 0) : nums ws (k + 1) = some (out ++ [(Dc.parse (cutL w).2.1).1]) := by
  simp [nums, h, hw, hn, h1, h2]
theorem nums_stop (h : nums ws k = some out) (hw : ws[k]? = some w) (hn : names[k]? = some n) (h1 : ¬ ((cutL w).1 = n ∧ (Dc.parse (cutL w).2.1).2 = 0)) : ∀ m, k < m → nums ws m = none := by
  intro m
  induction m with
  | zero => intro h; omega
  | succ m ih =>
    intro hm
    by_cases he : m = k
    · subst he; simp only [nums, h, hw, hn, if_neg h1]
    · simp [nums, ih (by omega)]
theorem nums_len : ∀ {k : Nat} {out : List Int}, nums ws k = some out → out.length = k
  | 0, out, h => by cases h; rfl
  | k + 1, out, h => by
    unfold nums at h
    split at h
    · rename_i o w n h1 h2 h3
      split at h
      · cases h; simp [nums_len h1]
      · cases h
    · cases h
end
def zeros : List Int := [0, 0, 0, 0, 0, 0, 0]
def parse (s : Bs) : List Int × Int := if (wordsL s).length = 7 then (match nums (wordsL s) 7 with | some out => (out, 0) | none => (zeros, 2)) else (zeros, 2)
theorem parse_few {s : Bs} (h : ¬ (wordsL s).length = 7) : parse s = (zeros, 2) := if_neg h
theorem parse_bad {s : Bs} {k : Nat} {out : List Int} {w n : Bs} (h7 : (wordsL s).length = 7) (h : nums (wordsL s) k = some out) (hw : (wordsL s)[k]? = some w) (hn : names[k]? = some n) (h1 : ¬ ((cutL w).1 = n ∧ (Dc.parse (cutL w).2.1).2 = 0)) : parse s = (zeros, 2) := by
  have hk : k < 7 := by rw [← h7]; exact (List.getElem?_eq_some_iff.1 hw).1
  rw [parse, if_pos h7, nums_stop h hw hn h1 7 hk]
theorem parse_all {s : Bs} {out : List Int} (h7 : (wordsL s).length = 7) (h : nums (wordsL s) 7 = some out) : parse s = (out, 0) := by rw [parse, if_pos h7, h]
theorem parse_len (s : Bs) : (parse s).1.length = 7 := by
  unfold parse
  split
  · split
    · rename_i h; exact nums_len h
    · rfl
  · rfl

/-! ### Back -/
theorem nums_back {l : List Int} (h : l.length = 7) (hI : I64s l) : ∀ k, k ≤ 7 → nums (wordsOf l) k = some (l.take k)
  | 0, _ => rfl
  | k + 1, hk => by
    have ih := nums_back h hI k (by omega)
    obtain ⟨n, hn⟩ : ∃ n, names[k]? = some n := ⟨_, List.getElem?_eq_getElem (by show k < 7; omega)⟩
    obtain ⟨x, hx⟩ : ∃ x, l[k]? = some x := ⟨_, List.getElem?_eq_getElem (by omega)⟩
    have hc := nv_cut (names_eq n (List.mem_of_getElem? hn)) x
    have hp := Dc.parse_some (hI x (List.mem_of_getElem? hx))
    rw [nums_next ih (wordsOf_at hn hx) hn (by rw [hc]) (by rw [hc, hp]), hc, hp]
    obtain ⟨hlt, rfl⟩ := List.getElem?_eq_some_iff.1 hx
    rw [List.take_succ_eq_append_getElem hlt]
theorem words_text {l : List Int} (h : l.length = 7) (s : Bs) (hs : s = [] ∨ (∃ c t, s = c :: t ∧ (bl c = true ∨ (c.toNat : Int) = 35))) : wordsL (text l ++ s) = wordsOf l ++ wordsL s :=
  wordsL_join (wordsOf l) s (fun he => by have := wordsOf_len h; rw [he] at this; cases this) wordsOf_word hs
theorem parse_words {s : Bs} {l : List Int} (h : l.length = 7) (hI : I64s l) (hw : wordsL s = wordsOf l) : parse s = (l, 0) := by
  have h7 := wordsOf_len h
  refine (parse_all (by rw [hw, h7]) (out := l.take 7) (by rw [hw]; exact nums_back h hI 7 (Nat.le_refl _))).trans ?_
  rw [List.take_of_length_le (by omega)]
theorem back {l : List Int} (h : l.length = 7) (hI : I64s l) : parse (text l) = (l, 0) := parse_words h hI (by
  have := words_text h [] (.inl rfl)
  simpa [wordsL_nil] using this)
theorem back_more {l : List Int} (h : l.length = 7) (hI : I64s l) (r : Bs) : parse ([32, 9] ++ text l ++ [32, 35] ++ r) = (l, 0) := parse_words h hI (by
  have h1 := words_text h ([32, 35] ++ r) (.inr ⟨32, 35 :: r, rfl, .inl rfl⟩)
  rw [List.append_assoc, List.append_assoc]
  show wordsL (32 :: 9 :: (text l ++ ([32, 35] ++ r))) = _
  rw [wordsL_blank _ bl_32 (by decide), wordsL_blank _ (by decide) (by decide), h1]
  show wordsOf l ++ wordsL (32 :: 35 :: r) = _
  rw [wordsL_blank _ bl_32 (by decide), wordsL_hash, List.append_nil])

/-! ### Which may be -/
def ok (l : List Int) (m : Int) : Bool := match l with
  | [a, b, c, d, e, f, g] => decide (1 ≤ m) && decide (m ≤ 128) && decide (0 ≤ a) && decide (a ≤ b) && decide (0 ≤ b) && decide (b ≤ 10000) && decide (1 ≤ c) && decide (c ≤ 99) && decide (1 ≤ d) && decide (d ≤ 100) && decide (0 ≤ e) && decide (e ≤ m) && decide (1 ≤ f) && decide (f ≤ 32) && decide (1 ≤ g) && decide (g ≤ 32)
  | _ => false
def check (l : List Int) (m : Int) : Int := if ok l m then 0 else 10
/-! ### The document's text -/
def textK (l : List Int) (k : Nat) : Bs := joinK (wordsOf l) k
theorem textK_next {l : List Int} {k : Nat} {n : Bs} {x : Int} (hn : names[k]? = some n) (hx : l[k]? = some x) : textK l (k + 1) = if k = 0 then n ++ [61] ++ Lib.itoa x else textK l k ++ [32] ++ n ++ [61] ++ Lib.itoa x := by
  unfold textK
  rw [joinK_next (wordsOf_at hn hx)]
  split
  · rfl
  · simp [nv]
theorem textK_len {l : List Int} (hI : I64s l) (k : Nat) : (textK l k).length ≤ 28 * k := joinK_le (wordsOf l) 27 (wordsOf_le hI) k
theorem textK_all {l : List Int} {k : Nat} (h : l.length = 7) (hk : 7 ≤ k) : textK l k = text l := joinK_all (by rw [wordsOf_len h]; exact hk)
section
variable {a b c d e f g m : Int}
def May (a b c d e f g m : Int) : Prop := 1 ≤ m ∧ m ≤ 128 ∧ 0 ≤ a ∧ a ≤ b ∧ 0 ≤ b ∧ b ≤ 10000 ∧ 1 ≤ c ∧ c ≤ 99 ∧ 1 ≤ d ∧ d ≤ 100 ∧ 0 ≤ e ∧ e ≤ m ∧ 1 ≤ f ∧ f ≤ 32 ∧ 1 ≤ g ∧ g ≤ 32
theorem ok_iff : ok [a, b, c, d, e, f, g] m = true ↔ May a b c d e f g m := by
  simp only [ok, Bool.and_eq_true, decide_eq_true_eq, May]
  constructor
  · rintro ⟨⟨⟨⟨⟨⟨⟨⟨⟨⟨⟨⟨⟨⟨⟨h1, h2⟩, h3⟩, h4⟩, h5⟩, h6⟩, h7⟩, h8⟩, h9⟩, h10⟩, h11⟩, h12⟩, h13⟩, h14⟩, h15⟩, h16⟩
    exact ⟨h1, h2, h3, h4, h5, h6, h7, h8, h9, h10, h11, h12, h13, h14, h15, h16⟩
  · rintro ⟨h1, h2, h3, h4, h5, h6, h7, h8, h9, h10, h11, h12, h13, h14, h15, h16⟩
    exact ⟨⟨⟨⟨⟨⟨⟨⟨⟨⟨⟨⟨⟨⟨⟨h1, h2⟩, h3⟩, h4⟩, h5⟩, h6⟩, h7⟩, h8⟩, h9⟩, h10⟩, h11⟩, h12⟩, h13⟩, h14⟩, h15⟩, h16⟩
theorem check_yes (h : 1 ≤ m ∧ m ≤ 128 ∧ 0 ≤ a ∧ a ≤ b ∧ 0 ≤ b ∧ b ≤ 10000 ∧ 1 ≤ c ∧ c ≤ 99 ∧ 1 ≤ d ∧ d ≤ 100 ∧ 0 ≤ e ∧ e ≤ m ∧ 1 ≤ f ∧ f ≤ 32 ∧ 1 ≤ g ∧ g ≤ 32) : check [a, b, c, d, e, f, g] m = 0 := by
  rw [check, if_pos (ok_iff.2 h)]
theorem check_no (h : ¬ (1 ≤ m ∧ m ≤ 128 ∧ 0 ≤ a ∧ a ≤ b ∧ 0 ≤ b ∧ b ≤ 10000 ∧ 1 ≤ c ∧ c ≤ 99 ∧ 1 ≤ d ∧ d ≤ 100 ∧ 0 ≤ e ∧ e ≤ m ∧ 1 ≤ f ∧ f ≤ 32 ∧ 1 ≤ g ∧ g ≤ 32)) : check [a, b, c, d, e, f, g] m = 10 := by
  rw [check, if_neg fun hc => h (ok_iff.1 hc)]
end
theorem list7 {l : List Int} {a b c d e f g : Int} (h : l.length = 7) (h0 : l[0]? = some a) (h1 : l[1]? = some b) (h2 : l[2]? = some c) (h3 : l[3]? = some d) (h4 : l[4]? = some e) (h5 : l[5]? = some f) (h6 : l[6]? = some g) : l = [a, b, c, d, e, f, g] := by
  match l, h with
  | [_, _, _, _, _, _, _], _ => simp at h0 h1 h2 h3 h4 h5 h6; simp [h0, h1, h2, h3, h4, h5, h6]
theorem put_at {out : List Int} {k : Nat} {v : Int} (h : out.length = k) (hk : k < 7) : (out ++ List.replicate (7 - k) 0).set k v = (out ++ [v]) ++ List.replicate (7 - (k + 1)) 0 := by
  rw [List.set_append_right _ _ (by omega), h, Nat.sub_self, show 7 - k = (7 - (k + 1)) + 1 from by omega, List.replicate_succ, List.set_cons_zero]
  simp
/-- Settings with another number. -/
def set (l : List Int) (name : Bs) (v : Int) : List Int × Int := if (findR name names).2 then (l.set (findR name names).1.toNat v, 0) else (zeros, 7)
theorem set_no {l : List Int} {name : Bs} {v : Int} (h : (findR name names).2 = false) : set l name v = (zeros, 7) := by rw [set, h]; rfl
theorem set_yes {l : List Int} {name : Bs} {v : Int} {k : Nat} (h : findR name names = ((k : Int), true)) : set l name v = (l.set k v, 0) := by rw [set, h]; rfl
theorem find7 (name : Bs) : findR name names = (0, false) ∨ findR name names = (0, true) ∨ findR name names = (1, true) ∨ findR name names = (2, true) ∨ findR name names = (3, true) ∨ findR name names = (4, true) ∨ findR name names = (5, true) ∨ findR name names = (6, true) := by
  cases h : (findR name names).2 with
  | false => exact .inl (findR_out h)
  | true =>
    obtain ⟨k, h1, _, h3⟩ := findR_in h
    have h3' : k < 7 := h3
    rw [h1]
    match k, h3' with
    | 0, _ => exact .inr (.inl rfl)
    | 1, _ => exact .inr (.inr (.inl rfl))
    | 2, _ => exact .inr (.inr (.inr (.inl rfl)))
    | 3, _ => exact .inr (.inr (.inr (.inr (.inl rfl))))
    | 4, _ => exact .inr (.inr (.inr (.inr (.inr (.inl rfl)))))
    | 5, _ => exact .inr (.inr (.inr (.inr (.inr (.inr (.inl rfl))))))
    | 6, _ => exact .inr (.inr (.inr (.inr (.inr (.inr (.inr rfl))))))
def usual : List Int := [1, 4, 10, 5, 1, 3, 2]
theorem usual_I : I64s usual := by
  intro x hx
  simp only [usual, List.mem_cons, List.not_mem_nil, or_false] at hx
  unfold Dc.I64
  omega
theorem it1 (u : Nat) (h : u < 10) : Lib.itoa (u : Int) = [UInt8.ofNat (48 + u)] := by rw [Dc.itoa_pos (by omega), Int.toNat_natCast, Dc.dec_small h]
theorem it10 : Lib.itoa 10 = [49, 48] := by
  rw [Dc.itoa_pos (by decide), show (10 : Int).toNat = 10 from rfl, Dc.dec_big (by decide), Dc.dec_small (by decide)]
  rfl
def usualB : Bs := [108, 111, 119, 61, 49, 32, 104, 105, 103, 104, 61, 52, 32, 99, 117, 116, 61, 49, 48, 32, 108, 105, 102, 116, 61, 53, 32, 102, 108, 111, 111, 114, 61, 49, 32, 116, 117, 114, 110, 61, 51, 32, 100, 119, 101, 108, 108, 61, 50]
theorem usual_text : text usual = usualB := by
  have h1 := it1 1 (by decide)
  have h4 := it1 4 (by decide)
  have h5 := it1 5 (by decide)
  have h3 := it1 3 (by decide)
  have h2 := it1 2 (by decide)
  have hw : wordsOf usual = [nv [108, 111, 119] 1, nv [104, 105, 103, 104] 4, nv [99, 117, 116] 10, nv [108, 105, 102, 116] 5, nv [102, 108, 111, 111, 114] 1, nv [116, 117, 114, 110] 3, nv [100, 119, 101, 108, 108] 2] := rfl
  unfold text
  rw [hw]
  simp only [nv, it10]
  rw [show Lib.itoa 1 = _ from h1, show Lib.itoa 4 = _ from h4, show Lib.itoa 5 = _ from h5, show Lib.itoa 3 = _ from h3, show Lib.itoa 2 = _ from h2]
  decide
theorem usual_check (m : Int) : decide (check [1, 4, 10, 5, 1, 3, 2] m = 0) = (decide (1 ≤ m) && decide (m ≤ 128)) := by
  by_cases h : 1 ≤ m ∧ m ≤ 128
  · rw [check_yes (by omega)]; simp [h]
  · rw [check_no (by omega)]
    have : ¬ (1 ≤ m ∧ m ≤ 128) := h
    by_cases h1 : 1 ≤ m <;> by_cases h2 : m ≤ 128 <;> simp [h1, h2] <;> omega
theorem find_bnd {name : Bs} (h : (findR name names).2 = true) : 0 ≤ (findR name names).1 ∧ (findR name names).1 < 7 := by
  obtain ⟨k, h1, _, h3⟩ := findR_in h
  have h3' : k < 7 := h3
  rw [h1]
  exact ⟨by simp only []; omega, by simp only []; omega⟩
theorem set_in {l : List Int} {name : Bs} {v : Int} (h : (findR name names).2 = true) : set l name v = (l.set (findR name names).1.toNat v, 0) := by rw [set, h]; rfl
theorem set_len {l : List Int} {name : Bs} {v : Int} (h : l.length = 7) : (set l name v).1.length = 7 := by
  unfold set
  split
  · simpa using h
  · rfl
end Go.LK.Kn
