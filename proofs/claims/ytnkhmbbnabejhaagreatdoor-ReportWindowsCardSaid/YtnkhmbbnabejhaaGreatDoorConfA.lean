/-
  Several texts in one: Conf0, Conf1.
-/
import Derived.Test.YtnkhmbbnabejhaaGreatDoorWordsA
namespace Go.LK
open Go
structure Cl where
  to : Int
  tier : Int
  weight : Int
  most : Int
def Cl.cells (e : Cl) : List Value := [.int .i64 e.to, .int .i64 e.tier, .int .i64 e.weight, .int .i64 e.most]
theorem Cl.one {l : List Cl} : ∀ a ∈ l, (Cl.cells a).all Value.oneCell' = true := fun _ _ => rfl
end Go.LK
namespace Go.LK.Cf
open Go Go.LK Go.LK.Wd
def heads : List Bs := [[119, 111, 114, 107, 101, 114, 115], [113, 117, 101, 117, 101], [119, 105, 110, 100, 111, 119], [116, 105, 101, 114, 115], [115, 101, 101, 110], [116, 116, 108]] ++ Kn.names

/-! ### Rows -/
def rowW (word : Bs) (ns : List Bs) (l : List Int) : List Bs := word :: (ns.zip l).map fun p => nv p.1 p.2
def row (word : Bs) (ns : List Bs) (l : List Int) : Bs := Lib.join (rowW word ns l) [32]
section
variable {word : Bs} {ns : List Bs} {l : List Int} {k : Nat} {n : Bs} {x : Int}
theorem rowW_len : (rowW word ns l).length = min ns.length l.length + 1 := by simp [rowW]
theorem rowW_ne : rowW word ns l ≠ [] := by simp [rowW]
theorem rowW_at (hn : ns[k]? = some n) (hx : l[k]? = some x) : (rowW word ns l)[k + 1]? = some (nv n x) := by
  unfold rowW
  rw [List.getElem?_cons_succ, List.getElem?_map, show (ns.zip l)[k]? = some (n, x) from List.getElem?_zip_eq_some.2 ⟨hn, hx⟩]; rfl
theorem rowW_next (hn : ns[k]? = some n) (hx : l[k]? = some x) : (rowW word ns l).take (k + 1 + 1) = (rowW word ns l).take (k + 1) ++ [nv n x] := by
  have h := rowW_at (word := word) hn hx
  obtain ⟨hlt, he⟩ := List.getElem?_eq_some_iff.1 h
  rw [List.take_succ_eq_append_getElem hlt, he]
theorem rowW_all (h : min ns.length l.length ≤ k) : (rowW word ns l).take (k + 1) = rowW word ns l := by rw [List.take_of_length_le (by rw [rowW_len]; omega)]
theorem rowW_mem {w : Bs} (h : w ∈ rowW word ns l) : w = word ∨ ∃ n ∈ ns, ∃ x ∈ l, w = nv n x := by
  rcases List.mem_cons.1 h with h | h
  · exact .inl h
  · obtain ⟨⟨n, x⟩, hp, rfl⟩ := List.mem_map.1 h
    exact .inr ⟨n, (List.of_mem_zip hp).1, x, (List.of_mem_zip hp).2, rfl⟩
theorem rowW_le {b : Nat} (hw : word.length ≤ b) (hns : ∀ x ∈ ns, x.length ≤ b) (hI : Kn.I64s l) : ∀ w ∈ rowW word ns l, w.length ≤ b + 22 := fun w h => by
  rcases rowW_mem h with rfl | ⟨n, hn, x, hx, rfl⟩
  · omega
  · have h1 := nv_len (name := n) (hI x hx)
    have h2 := hns n hn
    omega
end

/-! ### A line's numbers -/
def hasP (p s : Bs) : Bool := decide (p.length ≤ s.length) && (s.take p.length == p)
def cutPre (s p : Bs) : Bs × Bool := if hasP p s then (s.drop p.length, true) else (s, false)
theorem cutPre_no {s p : Bs} (h : hasP p s = false) : cutPre s p = (s, false) := by rw [cutPre, h]; rfl
theorem cutPre_yes {s p : Bs} (h : hasP p s = true) : cutPre s p = (s.drop p.length, true) := by rw [cutPre, h]; rfl
theorem cutPre_len (s p : Bs) : (cutPre s p).1.length ≤ s.length := by
  unfold cutPre; split
  · simp
  · exact Nat.le_refl _
theorem hasP_len {s p : Bs} (h : hasP p s = true) : p.length ≤ s.length := by
  simp only [hasP, Bool.and_eq_true, decide_eq_true_eq] at h; exact h.1
theorem hasP_short {s p : Bs} (h : s.length < p.length) : hasP p s = false := by simp [hasP]; intro h2; omega
theorem hasP_app (p s : Bs) : hasP p (p ++ s) = true := by simp [hasP]
def numN (ws ns : List Bs) : Nat → Option (List Int)
  | 0 => some []
  | k + 1 => match numN ws ns k, ws[k + 1]?, ns[k]? with
    | some out, some w, some n => if (cutPre w (n ++ [61])).2 = true ∧ (Dc.parse (cutPre w (n ++ [61])).1).2 = 0 then some (out ++ [(Dc.parse (cutPre w (n ++ [61])).1).1]) else none
    | _, _, _ => none
section
variable {ws ns : List Bs} {k : Nat} {out : List Int} {w n : Bs}
theorem num_next (h : numN ws ns k = some out) (hw : ws[k + 1]? = some w) (hn : ns[k]? = some n) (h1 : (cutPre w (n ++ [61])).2 = true) (h2 : (Dc.parse (cutPre w (n ++ [61])).1).2 = 0) : numN ws ns (k + 1) = some (out ++ [(Dc.parse (cutPre w (n ++ [61])).1).1]) := by
  simp [numN, h, hw, hn, h1, h2]
theorem num_stop (h : numN ws ns k = some out) (hw : ws[k + 1]? = some w) (hn : ns[k]? = some n) (h1 : ¬ ((cutPre w (n ++ [61])).2 = true ∧ (Dc.parse (cutPre w (n ++ [61])).1).2 = 0)) : ∀ m, k < m → numN ws ns m = none := by
  intro m
  induction m with
  | zero => intro h; omega
  | succ m ih =>
    intro hm
    by_cases he : m = k
    · subst he; simp only [numN, h, hw, hn, if_neg h1]
    · simp [numN, ih (by omega)]
theorem num_len : ∀ {k : Nat} {out : List Int}, numN ws ns k = some out → out.length = k
  | 0, out, h => by cases h; rfl
  | k + 1, out, h => by
    unfold numN at h
    split at h
    · rename_i o w n h1 h2 h3
      split at h
      · cases h; simp [num_len h1]
      · cases h
    · cases h
end
def numbers (line word : Bs) (ns : List Bs) : List Int × Bool :=
  if (wordsL line).length = ns.length + 1 ∧ (wordsL line)[0]? = some word then (match numN (wordsL line) ns ns.length with | some out => (out, true) | none => ([], false)) else ([], false)
section
variable {line word : Bs} {ns : List Bs} {k : Nat} {out : List Int} {w n e : Bs}
theorem numbers_few (h : ¬ (wordsL line).length = ns.length + 1) : numbers line word ns = ([], false) := if_neg fun hc => h hc.1
theorem numbers_word (he : (wordsL line)[0]? = some e) (h : (e == word) = false) : numbers line word ns = ([], false) := if_neg fun hc => by
  rw [he] at hc
  have := Option.some.inj hc.2
  subst this
  simp at h
theorem numbers_bad (h0 : (wordsL line).length = ns.length + 1) (he : (wordsL line)[0]? = some e) (h1 : (e == word) = true) (h : numN (wordsL line) ns k = some out) (hw : (wordsL line)[k + 1]? = some w) (hn : ns[k]? = some n) (hb : ¬ ((cutPre w (n ++ [61])).2 = true ∧ (Dc.parse (cutPre w (n ++ [61])).1).2 = 0)) : numbers line word ns = ([], false) := by
  have he' : e = word := by simpa using h1
  have hk := (List.getElem?_eq_some_iff.1 hn).1
  rw [numbers, if_pos ⟨h0, by rw [he, he']⟩, num_stop h hw hn hb _ hk]
theorem numbers_all (h0 : (wordsL line).length = ns.length + 1) (he : (wordsL line)[0]? = some e) (h1 : (e == word) = true) (h : numN (wordsL line) ns k = some out) (hk : k = ns.length) : numbers line word ns = (out, true) := by
  have he' : e = word := by simpa using h1
  subst hk
  rw [numbers, if_pos ⟨h0, by rw [he, he']⟩, h]
theorem numbers_len : (numbers line word ns).2 = true → (numbers line word ns).1.length = ns.length := by
  unfold numbers
  split
  · split
    · rename_i h; intro _; exact num_len h
    · intro h; cases h
  · intro h; cases h
end

/-! ### A service of its first line, a call of its line -/
/-! ### The document's way to a number -/
theorem cut_at {w p : Bs} (h1 : ¬ w.length < p.length) (h2 : (w.take p.length == p) = true) : cutPre w p = (w.drop p.length, true) := cutPre_yes (by simp only [hasP, h2, Bool.and_true, decide_eq_true_eq]; omega)
theorem bad_short {w p : Bs} (h : w.length < p.length) : ¬ ((cutPre w p).2 = true ∧ (Dc.parse (cutPre w p).1).2 = 0) := by
  rw [cutPre_no (hasP_short h)]; simp
theorem bad_take {w p : Bs} (h : (w.take p.length == p) = false) : ¬ ((cutPre w p).2 = true ∧ (Dc.parse (cutPre w p).1).2 = 0) := by
  rw [cutPre_no (by simp [hasP, h])]; simp
theorem bad_parse {w p : Bs} (h1 : ¬ w.length < p.length) (h2 : (w.take p.length == p) = true) (h3 : ¬ (Dc.parse (w.drop p.length)).2 = 0) : ¬ ((cutPre w p).2 = true ∧ (Dc.parse (cutPre w p).1).2 = 0) := by
  rw [cut_at h1 h2]; exact fun h => h3 h.2
/-! ### Which may be -/
def from_ (n a b : Int) : Bool := decide (a ≤ n) && decide (n ≤ b)
def right (c : Cl) (tiers self services : Int) : Bool := from_ c.to 0 (services - 1) && !decide (c.to = self) && from_ c.tier 0 tiers && from_ c.weight 1 8 && from_ c.most 1 65535
def okU (cs : List Cl) (tiers self services : Int) : Nat → Bool
  | 0 => true
  | k + 1 => okU cs tiers self services k && (match cs[k]? with
    | some c => !((cs.take k).any fun d => decide (d.to = c.to)) && right c tiers self services
    | none => true)
def callsOk (cs : List Cl) (tiers self services : Int) : Bool := decide (cs.length ≤ 6) && okU cs tiers self services cs.length
section
variable {cs : List Cl} {tiers self services : Int} {k : Nat} {c : Cl}
end
def roomOk (l : List Int) : Bool := match l with
  | [a, b, c, d, e, f, _, _, _, _, _, _, _] => from_ a 1 16 && from_ b 1 64 && from_ c 1 64 && from_ d 0 7 && from_ e 0 256 && from_ f 0 1099511627776
  | _ => false
def check (l : List Int) (cs : List Cl) (self services levels : Int) : Int :=
  if from_ services 1 8 && from_ self 0 (services - 1) && roomOk l && callsOk cs ((l[3]?).getD 0) self services then Kn.check (l.drop 6) levels else 10
end Go.LK.Cf

namespace Go.LK.Cf
open Go Go.LK Go.LK.Wd
section
variable {word : Bs} {ns : List Bs} {l : List Int}
theorem rowW_word (h0 : word ≠ []) (hw : ∀ x ∈ word, bl x = false ∧ ¬ (x.toNat : Int) = 35) (hn : ∀ w ∈ ns, ∀ x ∈ w, bl x = false ∧ ¬ (x.toNat : Int) = 35) : ∀ w ∈ rowW word ns l, Word w := fun w h => by
  rcases rowW_mem h with rfl | ⟨n, h1, x, _, rfl⟩
  · exact ⟨h0, hw⟩
  · exact nv_word (hn n h1) x
theorem words_row (h0 : word ≠ []) (hw : ∀ x ∈ word, bl x = false ∧ ¬ (x.toNat : Int) = 35) (hn : ∀ w ∈ ns, ∀ x ∈ w, bl x = false ∧ ¬ (x.toNat : Int) = 35) : wordsL (row word ns l) = rowW word ns l := words_join rowW_ne (rowW_word h0 hw hn)
theorem cut_nv (n : Bs) (x : Int) : cutPre (nv n x) (n ++ [61]) = (Lib.itoa x, true) := by
  unfold nv
  rw [cutPre_yes (hasP_app _ _), List.drop_left]
theorem numN_back (hl : l.length = ns.length) (hI : Kn.I64s l) : ∀ k, k ≤ ns.length → numN (rowW word ns l) ns k = some (l.take k)
  | 0, _ => by simp [numN]
  | k + 1, hk => by
    have h1 : ns[k]? = some ns[k] := List.getElem?_eq_getElem (by omega)
    have h2 : l[k]? = some l[k] := List.getElem?_eq_getElem (by omega)
    have hc := cut_nv ns[k] l[k]
    have hp := Dc.parse_some (hI _ (List.getElem_mem (by omega : k < l.length)))
    have := num_next (numN_back hl hI k (by omega)) (rowW_at h1 h2) h1 (by rw [hc]) (by rw [hc, hp])
    rw [this, hc, hp, List.take_add_one, h2]; rfl
theorem numbers_back (hl : l.length = ns.length) (hI : Kn.I64s l) (h0 : word ≠ []) (hw : ∀ x ∈ word, bl x = false ∧ ¬ (x.toNat : Int) = 35) (hn : ∀ w ∈ ns, ∀ x ∈ w, bl x = false ∧ ¬ (x.toNat : Int) = 35) : numbers (row word ns l) word ns = (l, true) := by
  have h := words_row (l := l) h0 hw hn
  have := numbers_all (line := row word ns l) (word := word) (ns := ns) (k := ns.length) (out := l) (e := word) (by rw [h, rowW_len]; omega) (by rw [h]; rfl) (by simp) (by rw [h, numN_back hl hI _ (Nat.le_refl _), List.take_of_length_le (by omega)]) rfl
  exact this
end
section
variable {n : List Int} {cs : List Cl} {k : Nat} {e : Bs}
end
theorem hasP_of {p s : Bs} (h : p.length ≤ s.length) : hasP p s = (s.take p.length == p) := by simp [hasP, h]
/-! ### What is awake -/
theorem aw_I : Kn.I64s [2, 8, 10, 1, 9, 50, 1, 4, 10, 5, 1, 3, 2] := by
  intro x hx
  simp only [List.mem_cons, List.not_mem_nil, or_false] at hx
  unfold Dc.I64
  omega
section
variable {α : Type} {p : α → Prop} {l : List α} {k : Nat} {e : α}
theorem all_next (h : ∀ x ∈ l.take k, p x) (he : l[k]? = some e) (hp : p e) : ∀ x ∈ l.take (k + 1), p x := by
  intro x hx
  rw [List.take_add_one, he, List.mem_append] at hx
  rcases hx with hx | hx
  · exact h x hx
  · simp at hx; rw [hx]; exact hp
end
/-! ### Alike -/
section
variable {α : Type} {f : α → List Int} {l m : List α} {k : Nat} {x y : α}
end
def one (n : Int) : List Int := [n]
/-! ### What the document asks of calls -/
/-- A row of the calls that are required, or of the others. -/
abbrev want (r : Bool) (c : Cl) : Bool := decide (c.tier = 0) == r
end Go.LK.Cf
