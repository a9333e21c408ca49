/-
  Several texts in one: Conf0, Conf1.
-/
import Derived.Test.YtnhfgnnpbipcnaaGreatDoorWordsA
namespace Go.LK
open Go
structure Cl where
  to : Int
  tier : Int
  weight : Int
  most : Int
def Cl.cells (e : Cl) : List Value := [.int .i64 e.to, .int .i64 e.tier, .int .i64 e.weight, .int .i64 e.most]
theorem Cl.one {l : List Cl} : ∀ a ∈ l, (Cl.cells a).all Value.oneCell' = true := fun _ _ => rfl
end Go.LK
namespace Go.LK.Cf
open Go Go.LK Go.LK.Wd
def heads : List Bs := [[119, 111, 114, 107, 101, 114, 115], [113, 117, 101, 117, 101], [119, 105, 110, 100, 111, 119], [116, 105, 101, 114, 115], [115, 101, 101, 110], [116, 116, 108]] ++ Kn.names
def tails : List Bs := [[116, 111], [116, 105, 101, 114], [119, 101, 105, 103, 104, 116], [109, 111, 115, 116]]
abbrev svcW : Bs := [115, 101, 114, 118, 105, 99, 101]
abbrev callW : Bs := [99, 97, 108, 108]
theorem heads_len : heads.length = 13 := rfl
theorem tails_len : tails.length = 4 := rfl
theorem heads_le : ∀ w ∈ heads, w.length ≤ 7 := by decide
theorem tails_le : ∀ w ∈ tails, w.length ≤ 7 := by decide
theorem heads_word : ∀ w ∈ heads, ∀ x ∈ w, bl x = false ∧ ¬ (x.toNat : Int) = 35 := by decide
theorem tails_word : ∀ w ∈ tails, ∀ x ∈ w, bl x = false ∧ ¬ (x.toNat : Int) = 35 := by decide

/-! ### Rows -/
def rowW (word : Bs) (ns : List Bs) (l : List Int) : List Bs := word :: (ns.zip l).map fun p => nv p.1 p.2
def row (word : Bs) (ns : List Bs) (l : List Int) : Bs := Lib.join (rowW word ns l) [32]
section
variable {word : Bs} {ns : List Bs} {l : List Int} {k : Nat} {n : Bs} {x : Int}
theorem rowW_len : (rowW word ns l).length = min ns.length l.length + 1 := by simp [rowW]
theorem rowW_ne : rowW word ns l ≠ [] := by simp [rowW]
theorem rowW_at (hn : ns[k]? = some n) (hx : l[k]? = some x) : (rowW word ns l)[k + 1]? = some (nv n x) := by
  unfold rowW
  rw [List.getElem?_cons_succ, List.getElem?_map, show (ns.zip l)[k]? = some (n, x) from List.getElem?_zip_eq_some.2 ⟨hn, hx⟩]; rfl
theorem rowW_next (hn : ns[k]? = some n) (hx : l[k]? = some x) : (rowW word ns l).take (k + 1 + 1) = (rowW word ns l).take (k + 1) ++ [nv n x] := by
  have h := rowW_at (word := word) hn hx
  obtain ⟨hlt, he⟩ := List.getElem?_eq_some_iff.1 h
  rw [List.take_succ_eq_append_getElem hlt, he]
theorem rowW_one : (rowW word ns l).take (0 + 1) = [word] := rfl
theorem rowW_all (h : min ns.length l.length ≤ k) : (rowW word ns l).take (k + 1) = rowW word ns l := by rw [List.take_of_length_le (by rw [rowW_len]; omega)]
theorem rowW_mem {w : Bs} (h : w ∈ rowW word ns l) : w = word ∨ ∃ n ∈ ns, ∃ x ∈ l, w = nv n x := by
  rcases List.mem_cons.1 h with h | h
  · exact .inl h
  · obtain ⟨⟨n, x⟩, hp, rfl⟩ := List.mem_map.1 h
    exact .inr ⟨n, (List.of_mem_zip hp).1, x, (List.of_mem_zip hp).2, rfl⟩
theorem rowW_le {b : Nat} (hw : word.length ≤ b) (hns : ∀ x ∈ ns, x.length ≤ b) (hI : Kn.I64s l) : ∀ w ∈ rowW word ns l, w.length ≤ b + 22 := fun w h => by
  rcases rowW_mem h with rfl | ⟨n, hn, x, hx, rfl⟩
  · omega
  · have h1 := nv_len (name := n) (hI x hx)
    have h2 := hns n hn
    omega
def rowK (word : Bs) (ns : List Bs) (l : List Int) (k : Nat) : Bs := joinK (rowW word ns l) (k + 1)
theorem rowK_zero : rowK word ns l 0 = word := by unfold rowK joinK; rw [rowW_one, Lib.join_one]
theorem rowK_next (hn : ns[k]? = some n) (hx : l[k]? = some x) : rowK word ns l (k + 1) = rowK word ns l k ++ [32] ++ n ++ [61] ++ Lib.itoa x := by
  unfold rowK
  rw [joinK_next (rowW_at hn hx), if_neg (by omega)]
  simp [nv]
theorem rowK_len {b : Nat} (hw : word.length ≤ b) (hns : ∀ x ∈ ns, x.length ≤ b) (hI : Kn.I64s l) (k : Nat) : (rowK word ns l k).length ≤ (b + 23) * (k + 1) := joinK_le _ (b + 22) (rowW_le hw hns hI) (k + 1)
theorem rowK_all (h : min ns.length l.length ≤ k) : rowK word ns l k = row word ns l := joinK_all (by rw [rowW_len]; omega)
end

/-! ### A line's numbers -/
def hasP (p s : Bs) : Bool := decide (p.length ≤ s.length) && (s.take p.length == p)
def cutPre (s p : Bs) : Bs × Bool := if hasP p s then (s.drop p.length, true) else (s, false)
theorem cutPre_no {s p : Bs} (h : hasP p s = false) : cutPre s p = (s, false) := by rw [cutPre, h]; rfl
theorem cutPre_yes {s p : Bs} (h : hasP p s = true) : cutPre s p = (s.drop p.length, true) := by rw [cutPre, h]; rfl
theorem cutPre_len (s p : Bs) : (cutPre s p).1.length ≤ s.length := by
  unfold cutPre; split
  · simp
  · exact Nat.le_refl _
theorem hasP_len {s p : Bs} (h : hasP p s = true) : p.length ≤ s.length := by
  simp only [hasP, Bool.and_eq_true, decide_eq_true_eq] at h; exact h.1
theorem hasP_short {s p : Bs} (h : s.length < p.length) : hasP p s = false := by simp [hasP]; intro h2; omega
theorem hasP_app (p s : Bs) : hasP p (p ++ s) = true := by simp [hasP]
def numN (ws ns : List Bs) : Nat → Option (List Int)
  | 0 => some []
  | k + 1 => match numN ws ns k, ws[k + 1]?, ns[k]? with
    | some out, some w, some n => if (cutPre w (n ++ [61])).2 = true ∧ (Dc.parse (cutPre w (n ++ [61])).1).2 = 0 then some (out ++ [(Dc.parse (cutPre w (n ++ [61])).1).1]) else none
    | _, _, _ => none
section
variable {ws ns : List Bs} {k : Nat} {out : List Int} {w n : Bs}
theorem num_next (h : numN ws ns k = some out) (hw : ws[k + 1]? = some w) (hn : ns[k]? = some n) (h1 : (cutPre w (n ++ [61])).2 = true) (h2 : (Dc.parse (cutPre w (n ++ [61])).1).2 = 0) : numN ws ns (k + 1) = some (out ++ [(Dc.parse (cutPre w (n ++ [61])).1).1]) := by
  simp [numN, h, hw, hn, h1, h2]
theorem num_stop (h : numN ws ns k = some out) (hw : ws[k + 1]? = some w) (hn : ns[k]? = some n) (h1 : ¬ ((cutPre w (n ++ [61])).2 = true ∧ (Dc.parse (cutPre w (n ++ [61])).1).2 = 0)) : ∀ m, k < m → numN ws ns m = none := by
  intro m
  induction m with
  | zero => intro h; omega
  | succ m ih =>
    intro hm
    by_cases he : m = k
    · subst he; simp only [numN, h, hw, hn, if_neg h1]
    · simp [numN, ih (by omega)]
theorem num_len : ∀ {k : Nat} {out : List Int}, numN ws ns k = some out → out.length = k
  | 0, out, h => by cases h; rfl
  | k + 1, out, h => by
    unfold numN at h
    split at h
    · rename_i o w n h1 h2 h3
      split at h
      · cases h; simp [num_len h1]
      · cases h
    · cases h
end
def numbers (line word : Bs) (ns : List Bs) : List Int × Bool :=
  if (wordsL line).length = ns.length + 1 ∧ (wordsL line)[0]? = some word then (match numN (wordsL line) ns ns.length with | some out => (out, true) | none => ([], false)) else ([], false)
section
variable {line word : Bs} {ns : List Bs} {k : Nat} {out : List Int} {w n e : Bs}
theorem numbers_few (h : ¬ (wordsL line).length = ns.length + 1) : numbers line word ns = ([], false) := if_neg fun hc => h hc.1
theorem numbers_word (he : (wordsL line)[0]? = some e) (h : (e == word) = false) : numbers line word ns = ([], false) := if_neg fun hc => by
  rw [he] at hc
  have := Option.some.inj hc.2
  subst this
  simp at h
theorem numbers_bad (h0 : (wordsL line).length = ns.length + 1) (he : (wordsL line)[0]? = some e) (h1 : (e == word) = true) (h : numN (wordsL line) ns k = some out) (hw : (wordsL line)[k + 1]? = some w) (hn : ns[k]? = some n) (hb : ¬ ((cutPre w (n ++ [61])).2 = true ∧ (Dc.parse (cutPre w (n ++ [61])).1).2 = 0)) : numbers line word ns = ([], false) := by
  have he' : e = word := by simpa using h1
  have hk := (List.getElem?_eq_some_iff.1 hn).1
  rw [numbers, if_pos ⟨h0, by rw [he, he']⟩, num_stop h hw hn hb _ hk]
theorem numbers_all (h0 : (wordsL line).length = ns.length + 1) (he : (wordsL line)[0]? = some e) (h1 : (e == word) = true) (h : numN (wordsL line) ns k = some out) (hk : k = ns.length) : numbers line word ns = (out, true) := by
  have he' : e = word := by simpa using h1
  subst hk
  rw [numbers, if_pos ⟨h0, by rw [he, he']⟩, h]
theorem numbers_len : (numbers line word ns).2 = true → (numbers line word ns).1.length = ns.length := by
  unfold numbers
  split
  · split
    · rename_i h; intro _; exact num_len h
    · intro h; cases h
  · intro h; cases h
end

/-! ### A service of its first line, a call of its line -/
def headL (line : Bs) : List Int := if (numbers line svcW heads).2 then (numbers line svcW heads).1 else List.replicate 13 0
def callL (line : Bs) : List Int := if (numbers line callW tails).2 then (numbers line callW tails).1 else List.replicate 4 0
theorem headL_no {line : Bs} (h : (numbers line svcW heads).2 = false) : headL line = List.replicate 13 0 := by rw [headL, h]; rfl
theorem headL_yes {line : Bs} (h : (numbers line svcW heads).2 = true) : headL line = (numbers line svcW heads).1 := by rw [headL, h]; rfl
theorem callL_no {line : Bs} (h : (numbers line callW tails).2 = false) : callL line = List.replicate 4 0 := by rw [callL, h]; rfl
theorem callL_yes {line : Bs} (h : (numbers line callW tails).2 = true) : callL line = (numbers line callW tails).1 := by rw [callL, h]; rfl
theorem list4 {l : List Int} {a b c d : Int} (hl : l.length = 4) (h0 : l[0]? = some a) (h1 : l[1]? = some b) (h2 : l[2]? = some c) (h3 : l[3]? = some d) : l = [a, b, c, d] := by
  match l, hl with
  | [_, _, _, _], _ => simp at h0 h1 h2 h3; simp [h0, h1, h2, h3]
theorem list13 {l r : List Int} {x0 x1 x2 x3 x4 x5 x6 x7 x8 x9 x10 x11 x12 : Int} (hl : l.length = 13) (hr : r = l.drop 6) (h0 : l[0]? = some x0) (h1 : l[1]? = some x1) (h2 : l[2]? = some x2) (h3 : l[3]? = some x3) (h4 : l[4]? = some x4) (h5 : l[5]? = some x5) (h6 : r[0]? = some x6) (h7 : r[1]? = some x7) (h8 : r[2]? = some x8) (h9 : r[3]? = some x9) (h10 : r[4]? = some x10) (h11 : r[5]? = some x11) (h12 : r[6]? = some x12) : l = [x0, x1, x2, x3, x4, x5, x6, x7, x8, x9, x10, x11, x12] := by
  subst hr
  match l, hl with
  | [_, _, _, _, _, _, _, _, _, _, _, _, _], _ => simp at h0 h1 h2 h3 h4 h5 h6 h7 h8 h9 h10 h11 h12; simp [h0, h1, h2, h3, h4, h5, h6, h7, h8, h9, h10, h11, h12]
/-- A service's lines. -/
def clL (c : Cl) : List Int := [c.to, c.tier, c.weight, c.most]
def lines (n : List Int) (cs : List Cl) : List Bs := row svcW heads n :: cs.map fun c => row callW tails (clL c)
theorem lines_next {n : List Int} {cs : List Cl} {k : Nat} {c : Cl} (hc : cs[k]? = some c) : (lines n cs).take (k + 1 + 1) = (lines n cs).take (k + 1) ++ [row callW tails [c.to, c.tier, c.weight, c.most]] := by
  have h : (lines n cs)[k + 1]? = some (row callW tails (clL c)) := by unfold lines; rw [List.getElem?_cons_succ, List.getElem?_map, hc]; rfl
  obtain ⟨hlt, he⟩ := List.getElem?_eq_some_iff.1 h
  rw [List.take_succ_eq_append_getElem hlt, he]; rfl
theorem lines_all {n : List Int} {cs : List Cl} {k : Nat} (h : cs.length ≤ k) : (lines n cs).take (k + 1) = lines n cs := by rw [List.take_of_length_le (by simp [lines]; omega)]
theorem lines_len {n : List Int} {cs : List Cl} : (lines n cs).length = cs.length + 1 := by simp [lines]
def ClI (c : Cl) : Prop := Kn.I64s (clL c)
/-! ### The document's way to a number -/
theorem cut_at {w p : Bs} (h1 : ¬ w.length < p.length) (h2 : (w.take p.length == p) = true) : cutPre w p = (w.drop p.length, true) := cutPre_yes (by simp only [hasP, h2, Bool.and_true, decide_eq_true_eq]; omega)
theorem bad_short {w p : Bs} (h : w.length < p.length) : ¬ ((cutPre w p).2 = true ∧ (Dc.parse (cutPre w p).1).2 = 0) := by
  rw [cutPre_no (hasP_short h)]; simp
theorem bad_take {w p : Bs} (h : (w.take p.length == p) = false) : ¬ ((cutPre w p).2 = true ∧ (Dc.parse (cutPre w p).1).2 = 0) := by
  rw [cutPre_no (by simp [hasP, h])]; simp
theorem bad_parse {w p : Bs} (h1 : ¬ w.length < p.length) (h2 : (w.take p.length == p) = true) (h3 : ¬ (Dc.parse (w.drop p.length)).2 = 0) : ¬ ((cutPre w p).2 = true ∧ (Dc.parse (cutPre w p).1).2 = 0) := by
  rw [cut_at h1 h2]; exact fun h => h3 h.2
/-! ### Which may be -/
def from_ (n a b : Int) : Bool := decide (a ≤ n) && decide (n ≤ b)
def right (c : Cl) (tiers self services : Int) : Bool := from_ c.to 0 (services - 1) && !decide (c.to = self) && from_ c.tier 0 tiers && from_ c.weight 1 8 && from_ c.most 1 65535
def okU (cs : List Cl) (tiers self services : Int) : Nat → Bool
  | 0 => true
  | k + 1 => okU cs tiers self services k && (match cs[k]? with
    | some c => !((cs.take k).any fun d => decide (d.to = c.to)) && right c tiers self services
    | none => true)
def callsOk (cs : List Cl) (tiers self services : Int) : Bool := decide (cs.length ≤ 6) && okU cs tiers self services cs.length
section
variable {cs : List Cl} {tiers self services : Int} {k : Nat} {c : Cl}
theorem okU_next (h : okU cs tiers self services k = true) (hc : cs[k]? = some c) (h1 : ((cs.take k).any fun d => decide (d.to = c.to)) = false) (h2 : right c tiers self services = true) : okU cs tiers self services (k + 1) = true := by
  simp [okU, h, hc, h1, h2]
theorem okU_bad (hc : cs[k]? = some c) (hb : ((cs.take k).any fun d => decide (d.to = c.to)) = true ∨ right c tiers self services = false) : ∀ m, k < m → okU cs tiers self services m = false := by
  intro m
  induction m with
  | zero => intro h; omega
  | succ m ih =>
    intro hm
    by_cases he : m = k
    · subst he
      rcases hb with hb | hb <;> simp [okU, hc, hb]
    · simp [okU, ih (by omega)]
theorem callsOk_many (h : 6 < cs.length) : callsOk cs tiers self services = false := by simp [callsOk]; intro h2; omega
theorem callsOk_bad (hc : cs[k]? = some c) (hb : ((cs.take k).any fun d => decide (d.to = c.to)) = true ∨ right c tiers self services = false) : callsOk cs tiers self services = false := by
  have := okU_bad hc hb cs.length (List.getElem?_eq_some_iff.1 hc).1
  simp [callsOk, this]
theorem callsOk_all (h : okU cs tiers self services k = true) (hk : ¬ k < cs.length) (hk2 : k ≤ cs.length) (h6 : ¬ 6 < cs.length) : callsOk cs tiers self services = true := by
  have : k = cs.length := by omega
  subst this
  simp [callsOk, h]; omega
end
def roomOk (l : List Int) : Bool := match l with
  | [a, b, c, d, e, f, _, _, _, _, _, _, _] => from_ a 1 16 && from_ b 1 64 && from_ c 1 64 && from_ d 0 7 && from_ e 0 256 && from_ f 0 1099511627776
  | _ => false
def check (l : List Int) (cs : List Cl) (self services levels : Int) : Int :=
  if from_ services 1 8 && from_ self 0 (services - 1) && roomOk l && callsOk cs ((l[3]?).getD 0) self services then Kn.check (l.drop 6) levels else 10
/-- The first place of a thing as asked for; -1 if there is none. -/
def indexF (p : Cl → Bool) (l : List Cl) : Int := match l.findIdx? p with | some k => k | none => -1
theorem indexF_nn {p : Cl → Bool} {l : List Cl} : decide (0 ≤ indexF p l) = l.any p := by
  unfold indexF
  cases h : l.findIdx? p with
  | none =>
    rw [List.findIdx?_eq_none_iff] at h
    have : l.any p = false := List.any_eq_false.2 fun x hx => by simpa using h x hx
    rw [this]; decide
  | some k =>
    obtain ⟨hk, hp, _⟩ := List.findIdx?_eq_some_iff_getElem.1 h
    have : l.any p = true := List.any_eq_true.2 ⟨l[k], List.getElem_mem hk, hp⟩
    rw [this, decide_eq_true_eq]
    exact Int.natCast_nonneg k
theorem indexF_no {p : Cl → Bool} {l : List Cl} {k : Nat} (hn : ∀ j x, j < k → l[j]? = some x → p x = false) (hk : ¬ k < l.length) : indexF p l = -1 := by
  unfold indexF
  rw [List.findIdx?_eq_none_iff.2 fun x hx => by
    obtain ⟨j, hj⟩ := List.mem_iff_getElem?.1 hx
    have hlt := (List.getElem?_eq_some_iff.1 hj).1
    simp [hn j x (by omega) hj]]
theorem indexF_at {p : Cl → Bool} {l : List Cl} {k : Nat} {e : Cl} (hn : ∀ j x, j < k → l[j]? = some x → p x = false) (he : l[k]? = some e) (h : p e = true) : indexF p l = k := by
  unfold indexF
  obtain ⟨hlt, rfl⟩ := List.getElem?_eq_some_iff.1 he
  rw [List.findIdx?_eq_some_iff_getElem.2 ⟨hlt, h, fun j hj => by
    have := hn j l[j] hj (List.getElem?_eq_getElem (by omega))
    simp [this]⟩]
theorem from_bnd {n a b : Int} (h : from_ n a b = true) : a ≤ n ∧ n ≤ b := by simpa [from_] using h
theorem check_yes {l : List Int} {cs : List Cl} {self services levels : Int} (h1 : from_ services 1 8 = true) (h2 : from_ self 0 (services - 1) = true) (h3 : roomOk l = true) (h4 : callsOk cs ((l[3]?).getD 0) self services = true) : check l cs self services levels = Kn.check (l.drop 6) levels := by
  simp [check, h1, h2, h3, h4]
theorem check_no {l : List Int} {cs : List Cl} {self services levels : Int} (h : (from_ services 1 8 && from_ self 0 (services - 1) && roomOk l && callsOk cs ((l[3]?).getD 0) self services) = false) : check l cs self services levels = 10 := by
  rw [check, h]; rfl
end Go.LK.Cf

namespace Go.LK.Cf
open Go Go.LK Go.LK.Wd
theorem svc_word : ∀ x ∈ svcW, bl x = false ∧ ¬ (x.toNat : Int) = 35 := by decide
theorem call_word : ∀ x ∈ callW, bl x = false ∧ ¬ (x.toNat : Int) = 35 := by decide
section
variable {word : Bs} {ns : List Bs} {l : List Int}
theorem rowW_word (h0 : word ≠ []) (hw : ∀ x ∈ word, bl x = false ∧ ¬ (x.toNat : Int) = 35) (hn : ∀ w ∈ ns, ∀ x ∈ w, bl x = false ∧ ¬ (x.toNat : Int) = 35) : ∀ w ∈ rowW word ns l, Word w := fun w h => by
  rcases rowW_mem h with rfl | ⟨n, h1, x, _, rfl⟩
  · exact ⟨h0, hw⟩
  · exact nv_word (hn n h1) x
theorem words_row (h0 : word ≠ []) (hw : ∀ x ∈ word, bl x = false ∧ ¬ (x.toNat : Int) = 35) (hn : ∀ w ∈ ns, ∀ x ∈ w, bl x = false ∧ ¬ (x.toNat : Int) = 35) : wordsL (row word ns l) = rowW word ns l := words_join rowW_ne (rowW_word h0 hw hn)
theorem cut_nv (n : Bs) (x : Int) : cutPre (nv n x) (n ++ [61]) = (Lib.itoa x, true) := by
  unfold nv
  rw [cutPre_yes (hasP_app _ _), List.drop_left]
theorem numN_back (hl : l.length = ns.length) (hI : Kn.I64s l) : ∀ k, k ≤ ns.length → numN (rowW word ns l) ns k = some (l.take k)
  | 0, _ => by simp [numN]
  | k + 1, hk => by
    have h1 : ns[k]? = some ns[k] := List.getElem?_eq_getElem (by omega)
    have h2 : l[k]? = some l[k] := List.getElem?_eq_getElem (by omega)
    have hc := cut_nv ns[k] l[k]
    have hp := Dc.parse_some (hI _ (List.getElem_mem (by omega : k < l.length)))
    have := num_next (numN_back hl hI k (by omega)) (rowW_at h1 h2) h1 (by rw [hc]) (by rw [hc, hp])
    rw [this, hc, hp, List.take_add_one, h2]; rfl
theorem numbers_back (hl : l.length = ns.length) (hI : Kn.I64s l) (h0 : word ≠ []) (hw : ∀ x ∈ word, bl x = false ∧ ¬ (x.toNat : Int) = 35) (hn : ∀ w ∈ ns, ∀ x ∈ w, bl x = false ∧ ¬ (x.toNat : Int) = 35) : numbers (row word ns l) word ns = (l, true) := by
  have h := words_row (l := l) h0 hw hn
  have := numbers_all (line := row word ns l) (word := word) (ns := ns) (k := ns.length) (out := l) (e := word) (by rw [h, rowW_len]; omega) (by rw [h]; rfl) (by simp) (by rw [h, numN_back hl hI _ (Nat.le_refl _), List.take_of_length_le (by omega)]) rfl
  exact this
end
theorem head_back {n : List Int} (h : n.length = 13) (hI : Kn.I64s n) : numbers (row svcW heads n) svcW heads = (n, true) := numbers_back (by rw [h, heads_len]) hI (by decide) svc_word heads_word
theorem call_back {c : Cl} (hI : ClI c) : numbers (row callW tails (clL c)) callW tails = (clL c, true) := numbers_back rfl hI (by decide) call_word tails_word
section
variable {n : List Int} {cs : List Cl} {k : Nat} {e : Bs}
theorem row_len (hI : Kn.I64s n) : (row svcW heads n).length ≤ 434 := by
  have h := join_le (rowW svcW heads n) 30 (fun w hw => by
    have := rowW_le (b := 8) (by decide) (fun x hx => Nat.le_trans (heads_le x hx) (by decide)) hI w hw
    exact this)
  have h2 := rowW_len (word := svcW) (ns := heads) (l := n)
  rw [heads_len] at h2
  unfold row
  have h3 : 31 * (rowW svcW heads n).length ≤ 31 * 14 := Nat.mul_le_mul_left _ (by omega)
  exact Nat.le_trans h h3
theorem crow_len {c : Cl} (hI : ClI c) : (row callW tails (clL c)).length ≤ 150 := by
  have h := join_le (rowW callW tails (clL c)) 29 (fun w hw => by
    have := rowW_le (b := 7) (by decide) (fun x hx => tails_le x hx) hI w hw
    exact this)
  have h2 : (rowW callW tails (clL c)).length = 5 := by rw [rowW_len]; rfl
  unfold row
  rw [h2] at h
  exact h
theorem lines_le (hn : Kn.I64s n) (hI : ∀ c ∈ cs, ClI c) : ∀ w ∈ lines n cs, w.length ≤ 434 := fun w h => by
  rcases List.mem_cons.1 h with rfl | h
  · exact row_len hn
  · obtain ⟨c, hc, rfl⟩ := List.mem_map.1 h
    exact Nat.le_trans (crow_len (hI c hc)) (by decide)
theorem take_next {c : Cl} (h : cs[k]? = some c) : cs.take k ++ [c] = cs.take (k + 1) := by rw [List.take_add_one, h]; rfl
end
theorem hasP_of {p s : Bs} (h : p.length ≤ s.length) : hasP p s = (s.take p.length == p) := by simp [hasP, h]
/-! ### What is awake -/
section
variable {α : Type} {p : α → Prop} {l : List α} {k : Nat} {e : α}
end
/-! ### Alike -/
section
variable {α : Type} {f : α → List Int} {l m : List α} {k : Nat} {x y : α}
theorem eqP_next (h : (l.take k).map f = (m.take k).map f) (hx : l[k]? = some x) (hy : m[k]? = some y) (he : f x = f y) : (l.take (k + 1)).map f = (m.take (k + 1)).map f := by
  rw [List.take_add_one, List.take_add_one, hx, hy, List.map_append, List.map_append, h]
  simp [he]
theorem eqP_all (h : (l.take k).map f = (m.take k).map f) (h1 : l.length ≤ k) (h2 : m.length ≤ k) : l.map f = m.map f := by
  rwa [List.take_of_length_le h1, List.take_of_length_le h2] at h
theorem eqP_bad (hx : l[k]? = some x) (hy : m[k]? = some y) (he : ¬ f x = f y) : ¬ l.map f = m.map f := fun h => he (by
  have := congrArg (·[k]?) h
  simpa [hx, hy] using this)
theorem eqP_len (h : ¬ l.length = m.length) : ¬ l.map f = m.map f := fun he => h (by simpa using congrArg List.length he)
end
def one (n : Int) : List Int := [n]
def sameI (l m : List Int) : Bool := decide (l.map one = m.map one)
def sameC (l m : List Cl) : Bool := decide (l.map clL = m.map clL)
theorem sameI_self (l : List Int) : sameI l l = true := by simp [sameI]
theorem sameC_self (l : List Cl) : sameC l l = true := by simp [sameC]
/-! ### What the document asks of calls -/
theorem kn_check (l : List Int) (m : Int) : Kn.check l m = 0 ∨ Kn.check l m = 10 := by unfold Kn.check; split <;> simp
theorem anyP_next {cs : List Cl} {j : Nat} {c d : Cl} (h : ((cs.take j).any fun d => decide (d.to = c.to)) = false) (hd : cs[j]? = some d) (hne : ¬ d.to = c.to) : ((cs.take (j + 1)).any fun d => decide (d.to = c.to)) = false := by
  rw [List.take_add_one, hd, List.any_append, h]; simp [hne]
theorem anyP_hit {cs : List Cl} {i j : Nat} {c d : Cl} (hd : cs[j]? = some d) (hj : j < i) (he : d.to = c.to) : ((cs.take i).any fun d => decide (d.to = c.to)) = true := by
  refine List.any_eq_true.2 ⟨d, ?_, by simp [he]⟩
  exact List.mem_of_getElem? (i := j) (by rw [List.getElem?_take, if_pos hj, hd])
theorem check_ten {l : List Int} {cs : List Cl} {self services levels : Int} (h : ¬ Kn.check (l.drop 6) levels = 0) : check l cs self services levels = 10 := by
  unfold check
  split
  · rcases kn_check (l.drop 6) levels with h2 | h2
    · exact absurd h2 h
    · exact h2
  · rfl
theorem callsOk_len {cs : List Cl} {tiers self services : Int} {k : Nat} (h : okU cs tiers self services k = true) (hk : ¬ k < cs.length) (hk2 : k ≤ cs.length) : callsOk cs tiers self services = decide ((cs.length : Int) ≤ 6) := by
  have : k = cs.length := by omega
  subst this
  rw [callsOk, h, Bool.and_true, decide_eq_decide]
  omega
theorem check_no13 {x0 x1 x2 x3 x4 x5 x6 x7 x8 x9 x10 x11 x12 : Int} {cs : List Cl} {self services levels : Int} (h : (from_ services 1 8 && from_ self 0 (services - 1) && (from_ x0 1 16 && from_ x1 1 64 && from_ x2 1 64 && from_ x3 0 7 && from_ x4 0 256 && from_ x5 0 1099511627776) && callsOk cs x3 self services) = false) : check [x0, x1, x2, x3, x4, x5, x6, x7, x8, x9, x10, x11, x12] cs self services levels = 10 := check_no h
theorem check_yes13 {x0 x1 x2 x3 x4 x5 x6 x7 x8 x9 x10 x11 x12 : Int} {cs : List Cl} {self services levels : Int} (h1 : from_ services 1 8 = true) (h2 : from_ self 0 (services - 1) = true) (h3 : (from_ x0 1 16 && from_ x1 1 64 && from_ x2 1 64 && from_ x3 0 7 && from_ x4 0 256 && from_ x5 0 1099511627776) = true) (h4 : callsOk cs x3 self services = true) : check [x0, x1, x2, x3, x4, x5, x6, x7, x8, x9, x10, x11, x12] cs self services levels = Kn.check [x6, x7, x8, x9, x10, x11, x12] levels := check_yes h1 h2 h3 h4
theorem check_ten13 {x0 x1 x2 x3 x4 x5 x6 x7 x8 x9 x10 x11 x12 : Int} {cs : List Cl} {self services levels : Int} (h : ¬ Kn.check [x6, x7, x8, x9, x10, x11, x12] levels = 0) : check [x0, x1, x2, x3, x4, x5, x6, x7, x8, x9, x10, x11, x12] cs self services levels = 10 := check_ten h
/-- A row of the calls that are required, or of the others. -/
abbrev want (r : Bool) (c : Cl) : Bool := decide (c.tier = 0) == r
end Go.LK.Cf
