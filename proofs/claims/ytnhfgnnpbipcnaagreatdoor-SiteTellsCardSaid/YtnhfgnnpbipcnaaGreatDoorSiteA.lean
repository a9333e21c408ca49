/-
  Several texts in one: Site0, Site1, Site2, Site3, Site4, Site5.
-/
import Derived.Test.YtnhfgnnpbipcnaaGreatDoorGraphA
import Derived.Test.YtnhfgnnpbipcnaaGreatDoorConfA
import Derived.Test.YtnhfgnnpbipcnaaGreatDoorHex0
import Derived.KernelRfl
namespace Go.LK.Si
open Go Go.LK
def keep (n most : Int) : Int := if 0 > (if most < n then most else n) then 0 else (if most < n then most else n)
def mulC (a b : Int) : Int := keep (IntKind.i64.wrap (keep a 2147483647 * keep b 2147483647)) 2147483647
def okL (b c : Int) : Bool := decide (1 ≤ b) && decide (b ≤ 8) && decide (1 ≤ c) && decide (c ≤ 16)
def okU (c r : Int) : Bool := decide (1 ≤ c) && decide (c ≤ 16) && decide (1 ≤ r) && decide (r ≤ 1099511627776)
section
variable {b c r : Int} {l : List Sg} {k : Nat} {e : Sg}
theorem okL_iff : okL b c = true ↔ 1 ≤ b ∧ b ≤ 8 ∧ 1 ≤ c ∧ c ≤ 16 := by simp [okL, and_assoc]
theorem okU_iff : okU c r = true ↔ 1 ≤ c ∧ c ≤ 16 ∧ 1 ≤ r ∧ r ≤ 1099511627776 := by simp [okU, and_assoc]
theorem okL_no (h : okL b c = false) : ¬ (1 ≤ b ∧ b ≤ 8 ∧ 1 ≤ c ∧ c ≤ 16) := fun hn => by rw [okL_iff.2 hn] at h; cases h
theorem okU_no (h : okU c r = false) : ¬ (1 ≤ c ∧ c ≤ 16 ∧ 1 ≤ r ∧ r ≤ 1099511627776) := fun hn => by rw [okU_iff.2 hn] at h; cases h
theorem mul_bnd (h : okL b c = true) : 1 ≤ b * c ∧ b * c ≤ 128 := by
  obtain ⟨h1, h2, h3, h4⟩ := okL_iff.1 h
  have a1 : b * c ≤ 8 * c := Int.mul_le_mul_of_nonneg_right h2 (by omega)
  have a2 : 1 * c ≤ b * c := Int.mul_le_mul_of_nonneg_right h1 (by omega)
  omega
/-- Are the first k services as they may be? -/
def chkN (b c : Int) (l : List Sg) (k : Nat) : Bool := (List.range k).all fun i => match l[i]? with
  | some s => decide (Cf.check s.nums s.cl (i : Int) (l.length : Int) (b * c) = 0)
  | none => true
noncomputable def chk (b c r : Int) (l : List Sg) : Int := if okL b c && okU c r && decide (1 ≤ l.length) && chkN b c l l.length then Gr.loops (gOf l) else 10
theorem chkN_zero : chkN b c l 0 = true := rfl
theorem chkN_next (h : chkN b c l k = true) (he : l[k]? = some e) (hc : Cf.check e.nums e.cl (k : Int) (l.length : Int) (b * c) = 0) : chkN b c l (k + 1) = true := by
  unfold chkN at h ⊢
  rw [List.range_succ, List.all_append, h]; simp [he, hc]
theorem chkN_bad (he : l[k]? = some e) (hc : ¬ Cf.check e.nums e.cl (k : Int) (l.length : Int) (b * c) = 0) : chkN b c l l.length = false := by
  unfold chkN
  rw [List.all_eq_false]
  exact ⟨k, List.mem_range.2 (List.getElem?_eq_some_iff.1 he).1, by simp [he, hc]⟩
theorem check_two (n : List Int) (cs : List Cl) (i m v : Int) : Cf.check n cs i m v = 0 ∨ Cf.check n cs i m v = 10 := by
  unfold Cf.check; split
  · unfold Kn.check; split
    · exact .inl rfl
    · exact .inr rfl
  · exact .inr rfl
theorem check_many {n : List Int} {cs : List Cl} {i m v : Int} (h : Cf.check n cs i m v = 0) : 1 ≤ m ∧ m ≤ 8 := by
  unfold Cf.check at h
  split at h
  · rename_i hc
    simp only [Bool.and_eq_true] at hc
    exact Cf.from_bnd hc.1.1.1
  · cases h
theorem chk_badL (h : okL b c = false) : chk b c r l = 10 := if_neg (by simp [h])
theorem chk_badU (h : okU c r = false) : chk b c r l = 10 := if_neg (by simp [h])
theorem chk_none (h : l.length = 0) : chk b c r l = 10 := if_neg (by simp [h])
theorem chk_bad (he : l[k]? = some e) (hc : ¬ Cf.check e.nums e.cl (k : Int) (l.length : Int) (b * c) = 0) : chk b c r l = 10 := if_neg (by rw [chkN_bad he hc]; simp)
theorem chk_bad' (he : l[k]? = some e) (hc : ¬ Cf.check e.nums e.cl (k : Int) (l.length : Int) (b * c) = 0) : chk b c r l = Cf.check e.nums e.cl (k : Int) (l.length : Int) (b * c) := by
  rw [chk_bad he hc]
  rcases check_two e.nums e.cl (k : Int) (l.length : Int) (b * c) with h | h
  · exact absurd h hc
  · exact h.symm
theorem chk_many (h : 8 < l.length) : chk b c r l = 10 := by
  obtain ⟨e, he⟩ : ∃ e, l[0]? = some e := ⟨_, List.getElem?_eq_getElem (by omega)⟩
  exact chk_bad he fun hc => by have := check_many hc; omega
theorem chk_all (h1 : okL b c = true) (h2 : okU c r = true) (h3 : 1 ≤ l.length) (h4 : chkN b c l k = true) (hk : ¬ k < l.length) (hk2 : k ≤ l.length) : chk b c r l = Gr.loops (gOf l) := by
  have : k = l.length := by omega
  subst this
  exact if_pos (by simp [h1, h2, h3, h4])
end
/-- May the law go on with it? -/
def fewP (l : List Sg) : Prop := l.length ≤ 10 ∧ ∀ s ∈ l, s.cl.length ≤ 10
theorem few_all {l : List Sg} {k : Nat} (hn : ∀ (i : Nat) (s : Sg), i < k → l[i]? = some s → s.cl.length ≤ 10) (hk : ¬ (k < l.length ∧ k < 10)) (h : l.length ≤ 10) : fewP l := ⟨h, fun s hs => by
  obtain ⟨i, hi⟩ := List.mem_iff_getElem?.1 hs
  exact hn i s (by have := (List.getElem?_eq_some_iff.1 hi).1; omega) hi⟩
theorem few_next {l : List Sg} {k : Nat} {e : Sg} (hn : ∀ (i : Nat) (s : Sg), i < k → l[i]? = some s → s.cl.length ≤ 10) (he : l[k]? = some e) (h : e.cl.length ≤ 10) : ∀ (i : Nat) (s : Sg), i < k + 1 → l[i]? = some s → s.cl.length ≤ 10 := fun i s hi hs => by
  rcases Nat.lt_or_ge i k with h1 | h1
  · exact hn i s h1 hs
  · have : i = k := by omega
    subst this; rw [he] at hs; cases hs; exact h
/-! ### What is told of a row of services -/
def dat (l : List Sg) : List (List Int × List Cl) := l.map fun s => (s.nums, s.cl)
def usd (n k : Nat) : List Int × List Cl := ([1, 4, 10, 1, 64, 20, 1, 4, 10, 5, 1, 3, 2], if k + 1 < n then [⟨(k : Int) + 1, 0, 6, 20⟩] else [])
def usK (n k : Nat) : List (List Int × List Cl) := (List.range k).map (usd n)
theorem us_next {l : List Sg} {n k : Nat} {e : Sg} (h : dat l = usK n k) (he : (e.nums, e.cl) = usd n k) : dat (l ++ [e]) = usK n (k + 1) := by
  unfold usK at h ⊢
  unfold dat at h ⊢
  rw [List.range_succ, List.map_append, List.map_append, h]
  simp [he]
theorem usd_yes {n k : Nat} (h : (k : Int) < (n : Int) - 1) : usd n k = ([1, 4, 10, 1, 64, 20, 1, 4, 10, 5, 1, 3, 2], [⟨(k : Int) + 1, 0, 6, 20⟩]) := by unfold usd; rw [if_pos (by omega)]
theorem usd_no {n k : Nat} (h : ¬ (k : Int) < (n : Int) - 1) : usd n k = ([1, 4, 10, 1, 64, 20, 1, 4, 10, 5, 1, 3, 2], []) := by unfold usd; rw [if_neg (by omega)]
/-- The same? -/
def sameS (x y : Sg) : Bool := Cf.sameI x.nums y.nums && Cf.sameC x.cl y.cl
def sameN (l m : List Sg) (k : Nat) : Bool := (List.range k).all fun i => match l[i]?, m[i]? with
  | some x, some y => sameS x y
  | _, _ => true
def same (b c r : Int) (n : Nat) (l : List Sg) (b' c' r' : Int) (n' : Nat) (l' : List Sg) : Bool := decide (b = b') && decide (c = c') && decide (r = r') && decide (n = n') && decide (l.length = l'.length) && sameN l l' l.length
section
variable {l m : List Sg} {k : Nat} {x y : Sg} {b c r b' c' r' : Int} {n n' : Nat}
theorem sameN_zero : sameN l m 0 = true := rfl
theorem sameN_next (h : sameN l m k = true) (hx : l[k]? = some x) (hy : m[k]? = some y) (hs : sameS x y = true) : sameN l m (k + 1) = true := by
  unfold sameN at h ⊢
  rw [List.range_succ, List.all_append, h]; simp [hx, hy, hs]
theorem sameN_bad (hx : l[k]? = some x) (hy : m[k]? = some y) (hs : sameS x y = false) : sameN l m l.length = false := by
  unfold sameN
  rw [List.all_eq_false]
  exact ⟨k, List.mem_range.2 (List.getElem?_eq_some_iff.1 hx).1, by simp [hx, hy, hs]⟩
theorem same_no (h : ¬ (b = b' ∧ c = c' ∧ r = r' ∧ n = n' ∧ l.length = m.length)) : same b c r n l b' c' r' n' m = false := by
  cases hq : same b c r n l b' c' r' n' m with
  | false => rfl
  | true =>
    simp only [same, Bool.and_eq_true, decide_eq_true_eq] at hq
    exact absurd ⟨hq.1.1.1.1.1, hq.1.1.1.1.2, hq.1.1.1.2, hq.1.1.2, hq.1.2⟩ h
theorem same_bad (hx : l[k]? = some x) (hy : m[k]? = some y) (hs : sameS x y = false) : same b c r n l b' c' r' n' m = false := by
  unfold same; rw [sameN_bad hx hy hs]; simp
theorem same_all (h : b = b' ∧ c = c' ∧ r = r' ∧ n = n' ∧ l.length = m.length) (hN : sameN l m k = true) (hk : ¬ k < l.length) (hk2 : k ≤ l.length) : same b c r n l b' c' r' n' m = true := by
  have : k = l.length := by omega
  subst this
  obtain ⟨h1, h2, h3, h4, h5⟩ := h
  unfold same; rw [hN, decide_eq_true h1, decide_eq_true h2, decide_eq_true h3, decide_eq_true h4, decide_eq_true h5]; rfl
theorem same_dat (h : dat l = dat m) : same b c r n l b c r n m = true := by
  have hl : l.length = m.length := by have := congrArg List.length h; simpa [dat] using this
  have : sameN l m l.length = true := by
    unfold sameN
    rw [List.all_eq_true]
    intro i hi
    cases hx : l[i]? with
    | none => simp
    | some x =>
      cases hy : m[i]? with
      | none => simp
      | some y =>
        have h1 : (dat l)[i]? = some (x.nums, x.cl) := by unfold dat; rw [List.getElem?_map, hx]; rfl
        have h2 : (dat m)[i]? = some (y.nums, y.cl) := by unfold dat; rw [List.getElem?_map, hy]; rfl
        rw [h, h2] at h1
        injection h1 with h1
        injection h1 with h3 h4
        simp [sameS, ← h3, ← h4, Cf.sameI_self, Cf.sameC_self]
  exact same_all ⟨rfl, rfl, rfl, rfl, hl⟩ this (Nat.lt_irrefl _) (Nat.le_refl _)
end
theorem sg_into {T : Nat} {V : Value} {u : List Cl} {l : List Sg} {R : List Sp} {e : Sg} (h1 : e.cv = V) (h2 : e.cl = u) : Re (row V T 4 (u.map Cl.cells) :: bun (l.map (Sg.row T)) :: R) (bun ((l ++ [e]).map (Sg.row T)) :: R) := by
  subst h1; subst h2
  rw [List.map_append]; exact Re.into
end Go.LK.Si

namespace Go.LK.Si
open Go Go.LK Go.LK.Wd
def names : List Bs := [[98, 117, 115, 105, 110, 101, 115, 115], [99, 108, 97, 115, 115, 101, 115], [114, 111, 116, 97, 116, 101]]
abbrev siteW : Bs := [115, 105, 116, 101]
def first (b c r : Int) (n : Nat) : Bs := Lib.join [Cf.row siteW names [b, c, r], [107, 101, 121, 61] ++ Hx.hexL n 16] [32]
def linesK (l : List Sg) (k : Nat) : List Bs := (l.take k).flatMap fun s => Cf.lines s.nums s.cl
def txt (L : List Bs) : Bs := L.flatMap fun w => w ++ [10]
def text (b c r : Int) (n : Nat) (l : List Sg) : Bs := txt (first b c r n :: linesK l l.length)
def okS (l : List Sg) : Prop := ∀ s ∈ l, Kn.I64s s.nums ∧ ∀ c ∈ s.cl, Cf.ClI c
section
variable {b c r : Int} {n k m : Nat} {l : List Sg} {e : Sg} {L M : List Bs} {x y : Bs}
theorem names_le : ∀ w ∈ names, w.length ≤ 8 := by decide
theorem first_ref : Cf.row siteW names [b, c, r] ++ [32, 107, 101, 121, 61] ++ Hx.hexL n 16 = first b c r n := by
  unfold first; rw [Lib.join_cons]; simp [Lib.joinTail]
theorem linesK_zero : linesK l 0 = [] := rfl
theorem linesK_next (he : l[k]? = some e) : linesK l (k + 1) = linesK l k ++ Cf.lines e.nums e.cl := by
  unfold linesK; rw [List.take_add_one, he, List.flatMap_append]; simp
theorem linesK_all (h : ¬ k < l.length) (h2 : k ≤ l.length) : linesK l k = linesK l l.length := by rw [show k = l.length from by omega]
theorem txt_append : txt (L ++ M) = txt L ++ txt M := by unfold txt; rw [List.flatMap_append]
theorem txt_one : txt [x] = x ++ [10] := by simp [txt]
theorem txt_next (h : L[k]? = some x) : txt (L.take (k + 1)) = txt (L.take k) ++ x ++ [10] := by
  rw [List.take_add_one, h, txt_append]; show _ ++ txt [x] = _; rw [txt_one, List.append_assoc]
theorem txt_join (x : Bs) (L : List Bs) : Lib.join (x :: L) [10] ++ [10] = txt (x :: L) := by
  rw [Lib.join_cons]
  unfold Lib.joinTail txt
  induction L generalizing x with
  | nil => simp
  | cons y L ih =>
    have := ih y
    simp only [List.map_cons, List.flatten_cons, List.flatMap_cons, List.append_assoc] at this ⊢
    rw [← this]
theorem txt_len (h : ∀ w ∈ L, w.length ≤ m) : (txt L).length ≤ (m + 1) * L.length := by
  induction L with
  | nil => simp [txt]
  | cons y L ih =>
    have h1 := ih fun w hw => h w (List.mem_cons_of_mem _ hw)
    have h2 := h y (List.mem_cons_self ..)
    unfold txt at h1 ⊢
    simp only [List.flatMap_cons, List.length_append, List.length_cons, List.length_nil, Nat.mul_add, Nat.mul_one]; omega
theorem row3_len (hI : Kn.I64s [b, c, r]) : (Cf.row siteW names [b, c, r]).length ≤ 124 := by
  have h := join_le (Cf.rowW siteW names [b, c, r]) 30 (fun w hw => by
    have := Cf.rowW_le (b := 8) (by decide) names_le hI w hw
    omega)
  have h2 := Cf.rowW_len (word := siteW) (ns := names) (l := [b, c, r])
  rw [h2] at h
  exact h
theorem first_len (hI : Kn.I64s [b, c, r]) : (first b c r n).length ≤ 160 := by
  rw [← first_ref]
  have h1 := row3_len hI
  have h2 : (Hx.hexL n 16).length = 16 := Hx.hexL_len 16 n
  simp only [List.length_append, List.length_cons, List.length_nil]; omega
theorem linesK_len (hc : ∀ s ∈ l, s.cl.length ≤ m) (hk : k ≤ l.length) : (linesK l k).length ≤ (m + 1) * k := by
  induction k with
  | zero => simp [linesK]
  | succ k ih =>
    obtain ⟨e, he⟩ : ∃ e, l[k]? = some e := ⟨_, List.getElem?_eq_getElem (by omega)⟩
    rw [linesK_next he, List.length_append, Cf.lines_len, Nat.mul_add]
    have h1 := ih (by omega)
    have h2 := hc e (List.mem_of_getElem? he)
    omega
theorem linesK_le (hI : okS l) : ∀ w ∈ linesK l k, w.length ≤ 434 := fun w hw => by
  obtain ⟨s, hs, h⟩ := List.mem_flatMap.1 hw
  obtain ⟨h1, h2⟩ := hI s (List.mem_of_mem_take hs)
  exact Cf.lines_le h1 h2 w h
theorem txtK_len (hI3 : Kn.I64s [b, c, r]) (hI : okS l) (hc : ∀ s ∈ l, s.cl.length ≤ 10) (hl : l.length ≤ 10) (hk : k ≤ l.length) : (txt (first b c r n :: linesK l k)).length ≤ 50000 := by
  have h := txt_len (L := first b c r n :: linesK l k) (m := 434) (fun w hw => by
    rcases List.mem_cons.1 hw with rfl | hw2
    · exact Nat.le_trans (first_len hI3) (by decide)
    · exact linesK_le hI w hw2)
  have h2 := linesK_len (k := k) hc hk
  simp only [List.length_cons] at h; omega
theorem txtL_len {v : List Int} {cs : List Cl} {q : Nat} (h1 : Kn.I64s v) (h2 : ∀ c ∈ cs, Cf.ClI c) (hc : cs.length ≤ 10) : (txt ((Cf.lines v cs).take q)).length ≤ 5000 := by
  have h := txt_len (L := (Cf.lines v cs).take q) (m := 434) (fun w hw => Cf.lines_le h1 h2 w (List.mem_of_mem_take hw))
  have h3 := Cf.lines_len (n := v) (cs := cs)
  rw [List.length_take] at h; omega
theorem txtL_all {v : List Int} {cs : List Cl} {q : Nat} {t : Bs} (h : ¬ q < (Cf.lines v cs).length) (ht : t = txt L ++ txt ((Cf.lines v cs).take q)) : t = txt (L ++ Cf.lines v cs) := by
  rw [ht, List.take_of_length_le (by omega), txt_append]
end
end Go.LK.Si

namespace Go.LK.Si
open Go Go.LK Go.LK.Wd
abbrev keyB : Bs := [107, 101, 121]
def nq (line : Bs) : List Int × Bool := Cf.numbers (Lib.join ((wordsL line).take (4 : Int).toNat) [32]) siteW names
def hx4 (line : Bs) : Nat × Int := Hx.parse (cutL ((wordsL line).getD 4 [])).2.1
def fstOk (line : Bs) : Bool := decide ((wordsL line).length = 5) && (nq line).2 && ((cutL ((wordsL line).getD 4 [])).1 == keyB) && decide ((hx4 line).2 = 0)
def fstV (line : Bs) : Int × Int × Int × Nat := if fstOk line then ((nq line).1.getD 0 0, (nq line).1.getD 1 0, (nq line).1.getD 2 0, (hx4 line).1) else (0, 0, 0, 0)
/-! ### How long words are together -/
def wt (l : List Bs) : Nat := (l.map fun w => w.length + 1).sum
theorem wt_cons (w : Bs) (l : List Bs) : wt (w :: l) = w.length + 1 + wt l := by simp [wt]
theorem wt_hd {c : UInt8} : ∀ {l : List Bs}, l ≠ [] → wt (hd c l) = wt l + 1
  | [], h => absurd rfl h
  | w :: l, _ => by simp only [hd, wt_cons, List.length_cons]; omega
theorem wt_cut {p : UInt8 → Bool} : ∀ (s : Bs), wt (cutP p s) = s.length + 1
  | [] => by simp [cutP, wt]
  | c :: s => by
    have ih := wt_cut (p := p) s
    unfold cutP
    split
    · rw [wt_cons, ih, List.length_nil, List.length_cons]; omega
    · rw [wt_hd cutP_ne, ih, List.length_cons]
theorem wt_sub {l m : List Bs} (h : l.Sublist m) : wt l ≤ wt m := by
  induction h with
  | slnil => exact Nat.le_refl _
  | cons a _ ih => rw [wt_cons]; omega
  | cons_cons a _ ih => rw [wt_cons, wt_cons]; omega
theorem wt_join : ∀ (l : List Bs), (Lib.join l [32]).length ≤ wt l
  | [] => by simp [Lib.join_nil]
  | w :: l => by
    rw [Lib.join_cons, List.length_append, wt_cons]
    have : (Lib.joinTail [32] l).length ≤ wt l := by
      unfold Lib.joinTail
      induction l with
      | nil => simp
      | cons y l ih => rw [List.map_cons, List.flatten_cons, List.length_append, List.length_append, wt_cons]; simp only [List.length_cons, List.length_nil]; omega
    omega
theorem joinN_len {line : Bs} {k : Nat} : (Lib.join ((wordsL line).take k) [32]).length ≤ line.length + 1 := by
  have h1 := wt_join ((wordsL line).take k)
  have h2 := wt_sub ((List.take_sublist k (wordsL line)).trans (List.filter_sublist (l := parts bl 35 line) (p := fun w => !(w == []))))
  have h3 : wt (parts bl 35 line) = (untilB 35 line).length + 1 := wt_cut _
  have h4 := until_len (e := 35) (s := line)
  omega
section
variable {line w : Bs} {x y z : Int}
theorem fst_yes (h5 : (wordsL line).length = 5) (hq : (nq line).2 = true) (hw : (wordsL line)[4]? = some w) (hk : ((cutL w).1 == keyB) = true) (hp : (Hx.parse (cutL w).2.1).2 = 0) : fstOk line = true := by
  unfold fstOk hx4; rw [List.getD_eq_getElem?_getD, hw, Option.getD_some, hk, hp, hq, h5]; rfl
theorem fstV_yes (h : fstOk line = true) (hw : (wordsL line)[4]? = some w) (h0 : (nq line).1[0]? = some x) (h1 : (nq line).1[1]? = some y) (h2 : (nq line).1[2]? = some z) : fstV line = (x, y, z, (Hx.parse (cutL w).2.1).1) := by
  unfold fstV hx4; rw [h, List.getD_eq_getElem?_getD, List.getD_eq_getElem?_getD, List.getD_eq_getElem?_getD, List.getD_eq_getElem?_getD, hw, h0, h1, h2]; rfl
theorem nq_len (h : (nq line).2 = true) : (nq line).1.length = 3 := Cf.numbers_len h
theorem join4_len (h : line.length ≤ 20000) : (Lib.join ((wordsL line).take (4 : Int).toNat) [32]).length ≤ 80004 := by
  have := join_le ((wordsL line).take (4 : Int).toNat) 20000 fun w hw => by have := words_part line w (List.mem_of_mem_take hw); omega
  have h3 : ((wordsL line).take (4 : Int).toNat).length ≤ 4 := by rw [List.length_take]; exact Nat.min_le_left _ _
  exact Nat.le_trans this (Nat.mul_le_mul_left _ h3)
theorem fst_parts (h : fstOk line = true) : (wordsL line).length = 5 ∧ (nq line).2 = true ∧ ∃ w, (wordsL line)[4]? = some w ∧ ((cutL w).1 == keyB) = true ∧ (Hx.parse (cutL w).2.1).2 = 0 := by
  unfold fstOk hx4 at h
  simp only [Bool.and_eq_true, decide_eq_true_eq] at h
  obtain ⟨⟨⟨h1, h2⟩, h3⟩, h4⟩ := h
  obtain ⟨w, hw⟩ : ∃ w, (wordsL line)[4]? = some w := ⟨_, List.getElem?_eq_getElem (by omega)⟩
  rw [List.getD_eq_getElem?_getD, hw, Option.getD_some] at h3 h4
  exact ⟨h1, h2, w, hw, h3, h4⟩
/-- As the program joins them: all but the last word. -/
def nq' (line : Bs) : List Int × Bool := Cf.numbers (Lib.join ((wordsL line).take (((wordsL line).length : Int) - 1).toNat) [32]) siteW names
theorem nq_same (h : (wordsL line).length = 5) : nq' line = nq line := by
  unfold nq' nq; rw [h]; rfl
theorem nq_few (h : ¬ (wordsL line).length = 5) : (nq' line).2 = false := by
  unfold nq'
  rw [Cf.numbers_few]
  intro h2
  have hn : names.length = 3 := rfl
  rw [hn] at h2
  by_cases h0 : (wordsL line).take (((wordsL line).length : Int) - 1).toNat = []
  · rw [h0, Lib.join_nil] at h2; exact absurd h2 (by decide)
  · rw [words_join h0 (fun w hw => words_Word line w (List.mem_of_mem_take hw)), List.length_take] at h2; omega
theorem nq_nil : (Cf.numbers ([] : Bs) siteW names).2 = false := by decide
theorem fst_ab {α : Prop} (hf : fstOk line = false) (h5 : (wordsL line).length = 5) (hq : (nq' line).2 = true) (hw : (wordsL line)[(wordsL line).length - 1]? = some w) (hk : ((cutL w).1 == keyB) = true) (hp : (Hx.parse (cutL w).2.1).2 = 0) : α :=
  absurd (fst_yes h5 (by rw [← nq_same h5]; exact hq) (by rw [h5] at hw; exact hw) hk hp) (by rw [hf]; decide)
end
end Go.LK.Si

namespace Go.LK.Si
open Go Go.LK Go.LK.Wd
abbrev D := List (List Int × List Cl)
abbrev H := Int × Int × Int × Nat
abbrev headOk (line : Bs) : Bool := (Cf.numbers line Cf.svcW Cf.heads).2
abbrev callOk (line : Bs) : Bool := (Cf.numbers line Cf.callW Cf.tails).2
def clOf (l : List Int) : Cl := ⟨l.getD 0 0, l.getD 1 0, l.getD 2 0, l.getD 3 0⟩
def callC (line : Bs) : Cl := clOf (Cf.callL line)
def addC (d : D) (c : Cl) : D := match d.getLast? with
  | none => d
  | some x => d.dropLast ++ [(x.1, x.2 ++ [c])]
def step (s : Option (H × D)) (line : Bs) : Option (Option (H × D)) :=
  if (wordsL line).length = 0 then some s else
  match s with
  | none => if fstOk line then some (some (fstV line, [])) else none
  | some (h, d) => if headOk line then some (some (h, d ++ [(Cf.headL line, [])])) else if callOk line && !d.isEmpty then some (some (h, addC d (callC line))) else none
def zero : H × D := ((0, 0, 0, 0), [])
def go : List Bs → Int → Option (H × D) → (H × D) × Int × Int
  | [], k, none => (zero, k, 2)
  | [], _, some x => (x, 0, 0)
  | l :: L, k, s => match step s l with
    | none => (zero, k, 2)
    | some s' => go L (k + 1) s'
def parse (text : Bs) : (H × D) × Int × Int := if 20000 < text.length then (zero, 0, 9) else go (linesL text) 0 none
/-- As the walk tells a state. -/
def stOf (sm : Bool) (b c r : Int) (n : Nat) (l : List Sg) : Option (H × D) := if sm then some ((b, c, r, n), dat l) else none
section
variable {line x : Bs} {d : D} {h : H} {c : Cl} {s s' : Option (H × D)} {L : List Bs} {k : Nat} {R : (H × D) × Int × Int} {l : List Sg} {e : Sg}
theorem addC_last {p : List Int × List Cl} : addC (d ++ [p]) c = d ++ [(p.1, p.2 ++ [c])] := by simp [addC]
theorem numbers_first {word : Bs} {ns : List Bs} (h : (Cf.numbers line word ns).2 = true) : (wordsL line)[0]? = some word := by
  unfold Cf.numbers at h
  split at h
  · rename_i hc; exact hc.2
  · cases h
theorem head_call (h : headOk line = true) : callOk line = false := by
  cases hc : callOk line with
  | false => rfl
  | true =>
    have h1 := numbers_first h
    rw [numbers_first hc] at h1
    exact absurd (Option.some.inj h1) (by decide)
theorem call_no_head (h : callOk line = true) : headOk line = false := by
  cases hc : headOk line with
  | false => rfl
  | true => rw [head_call hc] at h; cases h
theorem clOf_eq {a b c d : Int} {l : List Int} (h : l = [a, b, c, d]) : clOf l = ⟨a, b, c, d⟩ := by subst h; rfl
theorem step_blank (h : (wordsL line).length = 0) : step s line = some s := if_pos h
theorem step_first (h : ¬ (wordsL line).length = 0) (hf : fstOk line = true) : step none line = some (some (fstV line, [])) := by
  unfold step; rw [if_neg h]; simp only [hf, if_true]
theorem step_nofirst (h : ¬ (wordsL line).length = 0) (hf : fstOk line = false) : step none line = none := by
  unfold step; rw [if_neg h]; simp [hf]
theorem step_head (h0 : ¬ (wordsL line).length = 0) (hf : headOk line = true) : step (some (h, d)) line = some (some (h, d ++ [(Cf.headL line, [])])) := by
  unfold step; rw [if_neg h0]; simp only [hf, if_true]
theorem step_call (h0 : ¬ (wordsL line).length = 0) (hf : callOk line = true) (hd : d ≠ []) : step (some (h, d)) line = some (some (h, addC d (callC line))) := by
  unfold step; rw [if_neg h0]
  have h1 : d.isEmpty = false := by simpa using hd
  simp [hf, call_no_head hf, h1]
theorem step_none (h0 : ¬ (wordsL line).length = 0) (h1 : headOk line = false) (h2 : callOk line = false ∨ d = []) : step (some (h, d)) line = none := by
  unfold step; rw [if_neg h0]
  rcases h2 with h2 | rfl
  · simp [h1, h2]
  · simp [h1]
theorem go_next (h : R = go (L.drop k) (k : Int) s) (hx : L[k]? = some x) (hs : step s x = some s') : R = go (L.drop (k + 1)) ((k + 1 : Nat) : Int) s' := by
  obtain ⟨hlt, he⟩ := List.getElem?_eq_some_iff.1 hx
  rw [h, List.drop_eq_getElem_cons hlt, he, go, hs]; rfl
theorem go_bad (h : R = go (L.drop k) (k : Int) s) (hx : L[k]? = some x) (hs : step s x = none) : R = (zero, (k : Int), 2) := by
  obtain ⟨hlt, he⟩ := List.getElem?_eq_some_iff.1 hx
  rw [h, List.drop_eq_getElem_cons hlt, he, go, hs]
theorem go_end (h : R = go (L.drop k) (k : Int) s) (hk : ¬ k < L.length) : R = go [] (k : Int) s := by
  rw [h, List.drop_eq_nil_of_le (by omega)]
theorem go_start {t : Bs} (h : ¬ 20000 < t.length) : parse t = go ((linesL t).drop 0) ((0 : Nat) : Int) (stOf false 0 0 0 0 []) := by
  unfold parse; rw [if_neg h]; rfl
theorem parse_big {t : Bs} (h : 20000 < t.length) : parse t = (zero, 0, 9) := if_pos h
theorem dat_add : dat (l ++ [e]) = dat l ++ [(e.nums, e.cl)] := by simp [dat]
/-! ### A round, as the walks tell it -/
variable {b c' r : Int} {n : Nat}
theorem rd_first (hG : R = go (L.drop k) (k : Int) (stOf false 0 0 0 0 [])) (hx : L[k]? = some line) (h : ¬ ((wordsL line).length : Int) = 0) (hf : fstOk line = true) : R = go (L.drop (k + 1)) ((k + 1 : Nat) : Int) (stOf true (fstV line).1 (fstV line).2.1 (fstV line).2.2.1 (fstV line).2.2.2 []) :=
  go_next hG hx (step_first (by omega) hf)
theorem rd_nofirst (hG : R = go (L.drop k) (k : Int) (stOf false b c' r n l)) (hx : L[k]? = some line) (h : ¬ ((wordsL line).length : Int) = 0) (hf : fstOk line = false) : R = (zero, (k : Int), 2) :=
  go_bad hG hx (step_nofirst (by omega) hf)
theorem rd_head (hG : R = go (L.drop k) (k : Int) (stOf true b c' r n l)) (hx : L[k]? = some line) (h : ¬ ((wordsL line).length : Int) = 0) (hf : headOk line = true) (he : e.nums = Cf.headL line) (hc : e.cl = []) : R = go (L.drop (k + 1)) ((k + 1 : Nat) : Int) (stOf true b c' r n (l ++ [e])) :=
  go_next hG hx ((step_head (by omega) hf).trans (by simp only [stOf, if_true]; rw [dat_add, he, hc]))
theorem rd_call {e' : Sg} (hG : R = go (L.drop k) (k : Int) (stOf true b c' r n (l ++ [e]))) (hx : L[k]? = some line) (h : ¬ ((wordsL line).length : Int) = 0) (hf : callOk line = true) (he : e'.nums = e.nums) (hc : e'.cl = e.cl ++ [callC line]) : R = go (L.drop (k + 1)) ((k + 1 : Nat) : Int) (stOf true b c' r n (l ++ [e'])) :=
  go_next hG hx ((step_call (by omega) hf (by simp [dat])).trans (by simp only [stOf, if_true]; rw [dat_add, dat_add, addC_last, he, hc]))
theorem rd_none (hG : R = go (L.drop k) (k : Int) (stOf true b c' r n l)) (hx : L[k]? = some line) (h : ¬ ((wordsL line).length : Int) = 0) (h1 : headOk line = false) (h2 : callOk line = false ∨ l = []) : R = (zero, (k : Int), 2) :=
  go_bad hG hx (step_none (by omega) h1 (h2.imp id fun h => by subst h; rfl))
theorem rd_blank (hG : R = go (L.drop k) (k : Int) s) (hx : L[k]? = some line) (h : ((wordsL line).length : Int) = 0) : R = go (L.drop (k + 1)) ((k + 1 : Nat) : Int) s :=
  go_next hG hx (step_blank (by omega))
theorem rd_end0 (hG : R = go (L.drop k) (k : Int) (stOf false b c' r n l)) (hk : ¬ k < L.length) (hk2 : k ≤ L.length) : R = (zero, (L.length : Int), 2) := by
  rw [go_end hG hk]; show (zero, (k : Int), 2) = _; rw [show k = L.length from by omega]
theorem rd_end1 (hG : R = go (L.drop k) (k : Int) (stOf true b c' r n l)) (hk : ¬ k < L.length) : R = (((b, c', r, n), dat l), 0, 0) := by
  rw [go_end hG hk]; rfl
theorem sg_out {T : Nat} {S : List Sp} : Re (bun ((l ++ [e]).map (Sg.row T)) :: S) (row e.cv T 4 (e.cl.map Cl.cells) :: bun (l.map (Sg.row T)) :: S) := by
  have h := Re.out (As := (l ++ [e]).map (Sg.row T)) (As1 := l.map (Sg.row T)) (As2 := []) (B := e.row T) (R := S) (by simp)
  rw [List.append_nil] at h
  exact h
theorem last_at2 : (l ++ [e])[(l ++ [e]).length - 1]? = some e := by simp
theorem len_app : (l ++ [e]).length = l.length + 1 := by simp
theorem set_last {e' : Sg} : (l ++ [e]).set ((l ++ [e]).length - 1) e' = l ++ [e'] := by simp
/-! ### How many services and calls a text may have -/
def bnd (l : List Sg) (k : Nat) : Prop := l.length ≤ k ∧ ∀ s ∈ l, s.cl.length ≤ k
theorem bnd_nil : bnd [] k := ⟨Nat.zero_le _, fun _ h => by cases h⟩
theorem bnd_le {m : Nat} (h : bnd l k) (hm : k ≤ m) : bnd l m := ⟨Nat.le_trans h.1 hm, fun s hs => Nat.le_trans (h.2 s hs) hm⟩
theorem bnd_up (h : bnd l k) : bnd l (k + 1) := bnd_le h (Nat.le_succ k)
theorem bnd_head (h : bnd l k) (he : e.cl = []) : bnd (l ++ [e]) (k + 1) := ⟨by rw [len_app]; have := h.1; omega, fun s hs => by
  rcases List.mem_append.1 hs with hs | hs
  · exact Nat.le_trans (h.2 s hs) (Nat.le_succ k)
  · rw [List.mem_singleton] at hs; rw [hs, he]; exact Nat.zero_le _⟩
theorem bnd_call {e' : Sg} {q : Cl} (h : bnd (l ++ [e]) k) (he : e'.cl = e.cl ++ [q]) : bnd (l ++ [e']) (k + 1) := ⟨by have := h.1; rw [len_app] at this ⊢; omega, fun s hs => by
  rcases List.mem_append.1 hs with hs | hs
  · exact Nat.le_trans (h.2 s (by simp [hs])) (Nat.le_succ k)
  · rw [List.mem_singleton] at hs
    have := h.2 e (by simp)
    rw [hs, he, List.length_append]; simp only [List.length_cons, List.length_nil]; omega⟩
/-- In which state the reader stands. -/
def stt (fa fb : Value) (fc : Nat → Value) (xc : Nat → Sp) (sm : Bool) (b c' r : Int) (n : Nat) (sv f : Value) (l : List Sg) (X : Sp) : Prop :=
  (sm = false ∧ b = 0 ∧ c' = 0 ∧ r = 0 ∧ n = 0 ∧ sv = .slice none 0 0 ∧ l = [] ∧ f = fa ∧ X = bun []) ∨ (sm = true ∧ sv = .slice none 0 0 ∧ l = [] ∧ f = fb ∧ X = bun []) ∨ (sm = true ∧ (∃ l0 e, l = l0 ++ [e]) ∧ ∃ gb, f = fc gb ∧ X = xc gb)
end
end Go.LK.Si

namespace Go.LK.Hx
open Go Go.LK
theorem accH_app' {l : List UInt8} {c : UInt8} : ∀ {i : Nat}, i ≤ l.length → accH (l ++ [c]) i = accH l i
  | 0, _ => rfl
  | i + 1, h => by
    have ih := accH_app' (l := l) (c := c) (i := i) (by omega)
    simp only [accH, ih]
    rw [List.getElem?_append_left (by omega)]
theorem acc_hexL' : ∀ (k n : Nat), accH (hexL n k) k = some (n % 16 ^ k)
  | 0, n => by simp [accH, Nat.mod_one]
  | k + 1, n => by
    have ih := acc_hexL' k (n / 16)
    have hl := hexL_len k (n / 16)
    have h1 : accH (hexL (n / 16) k ++ [hx (n % 16)]) k = some (n / 16 % 16 ^ k) := by rw [accH_app' (by omega)]; exact ih
    have h2 : (hexL (n / 16) k ++ [hx (n % 16)])[k]? = some (hx (n % 16)) := by rw [List.getElem?_append_right (by omega), hl]; simp
    have h3 := accH_next h1 h2 (hv_at (hx_get (by omega)))
    rw [hexL, h3, Nat.pow_succ, Nat.mul_comm (16 ^ k) 16, Nat.mod_mul]
    congr 1
    omega
theorem hex_back' {n : Nat} (h : n < 18446744073709551616) : parse (hexL n 16) = (n, 0) :=
  parse_ok (hexL_len 16 n) (by rw [acc_hexL', Nat.mod_eq_of_lt h])
theorem hx_byte (d : Nat) : hx d = 0 ∨ hx d ∈ hexDigits := by
  unfold hx
  rw [List.getD_eq_getElem?_getD]
  cases h : hexDigits[d]? with
  | none => exact .inl rfl
  | some x => exact .inr (List.mem_of_getElem? h)
theorem hexL_byte {p : UInt8 → Prop} (h0 : p 0) (hd : ∀ x ∈ hexDigits, p x) : ∀ (k n : Nat), ∀ x ∈ hexL n k, p x
  | 0, _, x, hx' => by cases hx'
  | k + 1, n, x, hx' => by
    rw [hexL] at hx'
    rcases List.mem_append.1 hx' with h | h
    · exact hexL_byte h0 hd k _ x h
    · rw [List.mem_singleton] at h
      rcases hx_byte (n % 16) with h2 | h2
      · rw [h, h2]; exact h0
      · exact hd x (h ▸ h2)
end Go.LK.Hx
namespace Go.LK.Si
open Go Go.LK Go.LK.Wd
def NoNl (w : Bs) : Prop := ∀ x ∈ w, nl x = false
theorem fst_congr {x y : Bs} (h : wordsL x = wordsL y) : fstOk x = fstOk y ∧ fstV x = fstV y := by
  have h1 : fstOk x = fstOk y := by unfold fstOk nq hx4; rw [h]
  refine ⟨h1, ?_⟩
  unfold fstV nq hx4; rw [h1, h]
section
variable {b c r : Int} {n : Nat} {l : List Sg} {L : List Bs} {k : Int}
def keyV (n : Nat) : Bs := [107, 101, 121, 61] ++ Hx.hexL n 16
theorem keyV_word : Word (keyV n) := ⟨by simp [keyV], fun x hx => by
  rcases List.mem_append.1 hx with h | h
  · have hh : ∀ x ∈ ([107, 101, 121, 61] : Bs), bl x = false ∧ ¬ (x.toNat : Int) = 35 := by decide
    exact hh x h
  · exact Hx.hexL_byte (p := fun x => bl x = false ∧ ¬ (x.toNat : Int) = 35) (by decide) (by decide) 16 n x h⟩
theorem names_word : ∀ w ∈ names, ∀ x ∈ w, bl x = false ∧ ¬ (x.toNat : Int) = 35 := by decide
theorem site_word : ∀ x ∈ siteW, bl x = false ∧ ¬ (x.toNat : Int) = 35 := by decide
theorem first_join : first b c r n = Lib.join (Cf.rowW siteW names [b, c, r] ++ [keyV n]) [32] := by
  unfold first
  rw [join_snoc, if_neg Cf.rowW_ne, Lib.join_cons]
  simp [Lib.joinTail, Cf.row, keyV]
theorem first_words : wordsL (first b c r n) = Cf.rowW siteW names [b, c, r] ++ [keyV n] := by
  rw [first_join]
  refine words_join (by simp) fun w hw => ?_
  rcases List.mem_append.1 hw with h | h
  · exact Cf.rowW_word (by decide) site_word names_word w h
  · rw [List.mem_singleton] at h; rw [h]; exact keyV_word
theorem first_back (hI : Kn.I64s [b, c, r]) (hn : n < 18446744073709551616) : fstOk (first b c r n) = true ∧ fstV (first b c r n) = (b, c, r, n) := by
  have hw := first_words (b := b) (c := c) (r := r) (n := n)
  have h5 : (Cf.rowW siteW names [b, c, r]).length = 4 := by rw [Cf.rowW_len]; rfl
  have hq : nq (first b c r n) = ([b, c, r], true) := by
    unfold nq
    have e4 : (Cf.rowW siteW names [b, c, r] ++ [keyV n]).take (4 : Int).toNat = Cf.rowW siteW names [b, c, r] := by
      rw [show (4 : Int).toNat = (Cf.rowW siteW names [b, c, r]).length from h5.symm, List.take_left]
    rw [hw, e4]
    exact Cf.numbers_back (word := siteW) (ns := names) (l := [b, c, r]) rfl hI (by decide) site_word names_word
  have h4 : (wordsL (first b c r n))[4]? = some (keyV n) := by rw [hw, List.getElem?_append_right (by omega), h5]; rfl
  have ek : keyV n = keyB ++ 61 :: Hx.hexL n 16 := by simp [keyV]
  have hc : cutL (keyV n) = (keyB, Hx.hexL n 16, true) := by rw [ek]; exact cutL_name (by decide)
  have hp := Hx.hex_back' hn
  have hf : fstOk (first b c r n) = true := fst_yes (by rw [hw, List.length_append, h5]; rfl) (by rw [hq]) h4 (by rw [hc]; rfl) (by rw [hc, hp])
  refine ⟨hf, ?_⟩
  rw [fstV_yes (x := b) (y := c) (z := r) hf h4 (by rw [hq]; rfl) (by rw [hq]; rfl) (by rw [hq]; rfl), hc, hp]
/-! ### Lines -/
theorem join_nl : ∀ (l : List Bs), (∀ w ∈ l, NoNl w) → NoNl (Lib.join l [32])
  | [], _ => fun x hx => by cases hx
  | [w], h => by rw [Lib.join_one]; exact h w (by simp)
  | w :: u :: t, h => fun x hx => by
    have ih := join_nl (u :: t) fun v hv => h v (List.mem_cons_of_mem _ hv)
    rw [join_cons2 (by simp)] at hx
    rcases List.mem_append.1 hx with h1 | h1
    · exact h w (by simp) x h1
    · rcases List.mem_append.1 h1 with h2 | h2
      · rw [List.mem_singleton] at h2; rw [h2]; decide
      · exact ih x h2
theorem itoa_nl (n : Int) : NoNl (Lib.itoa n) := fun x hx => by
  have := itoa_byte x hx
  unfold Dc.isD at this
  simp only [nl, decide_eq_false_iff_not]
  omega
theorem row_nl {word : Bs} {ns : List Bs} {v : List Int} (hw : NoNl word) (hn : ∀ w ∈ ns, NoNl w) : NoNl (Cf.row word ns v) := join_nl _ fun w h => by
  rcases Cf.rowW_mem h with rfl | ⟨m, h1, x, _, rfl⟩
  · exact hw
  · intro y hy
    unfold nv at hy
    rcases List.mem_append.1 hy with h2 | h2
    · rcases List.mem_append.1 h2 with h3 | h3
      · exact hn m h1 y h3
      · rw [List.mem_singleton] at h3; rw [h3]; decide
    · exact itoa_nl x y h2
theorem names_nl : ∀ w ∈ names, NoNl w := by
  have h : ∀ w ∈ names, ∀ x ∈ w, nl x = false := by decide
  exact h
theorem heads_nl : ∀ w ∈ Cf.heads, NoNl w := by
  have h : ∀ w ∈ Cf.heads, ∀ x ∈ w, nl x = false := by decide
  exact h
theorem tails_nl : ∀ w ∈ Cf.tails, NoNl w := by
  have h : ∀ w ∈ Cf.tails, ∀ x ∈ w, nl x = false := by decide
  exact h
theorem lit_nl {w : Bs} (h : w.all (fun x => !nl x) = true) : NoNl w := fun x hx => by
  have := List.all_eq_true.1 h x hx
  simpa using this
theorem first_nl : NoNl (first b c r n) := by
  rw [first_join]
  refine join_nl _ fun w hw => ?_
  rcases List.mem_append.1 hw with h | h
  · rcases Cf.rowW_mem h with rfl | ⟨m, h1, x, _, rfl⟩
    · exact lit_nl rfl
    · intro y hy
      unfold nv at hy
      rcases List.mem_append.1 hy with h2 | h2
      · rcases List.mem_append.1 h2 with h3 | h3
        · exact names_nl m h1 y h3
        · rw [List.mem_singleton] at h3; rw [h3]; decide
      · exact itoa_nl x y h2
  · rw [List.mem_singleton] at h; rw [h]
    intro x hx
    rcases List.mem_append.1 hx with h | h
    · exact lit_nl (w := [107, 101, 121, 61]) rfl x h
    · exact Hx.hexL_byte (p := fun x => nl x = false) (by decide) (by decide) 16 n x h
theorem lines_nl {v : List Int} {cs : List Cl} : ∀ w ∈ Cf.lines v cs, NoNl w := fun w hw => by
  rcases List.mem_cons.1 hw with rfl | h
  · exact row_nl (lit_nl rfl) heads_nl
  · obtain ⟨c, _, rfl⟩ := List.mem_map.1 h
    exact row_nl (lit_nl rfl) tails_nl
theorem linesK_nl : ∀ w ∈ linesK l l.length, NoNl w := fun w hw => by
  obtain ⟨s, _, h⟩ := List.mem_flatMap.1 hw
  exact lines_nl w h
theorem lines_cons {a z : Bs} (h : NoNl a) : linesL (a ++ 10 :: z) = a :: linesL z := by
  have hp : parts nl (-1) (a ++ 10 :: z) = a :: parts nl (-1) z := by
    unfold parts
    rw [until_neg, until_neg, cutP_sep h (by decide)]
  obtain ⟨x, t, hb⟩ := List.exists_cons_of_ne_nil (parts_ne (p := nl) (e := -1) (s := z))
  have hl : (a :: parts nl (-1) z).getLast? = (parts nl (-1) z).getLast? := by rw [hb]; simp
  unfold linesL
  rw [hp, hl]
  split
  · rw [hb]; simp
  · rfl
theorem lines_txt {z : Bs} : ∀ (L : List Bs), (∀ w ∈ L, NoNl w) → linesL (txt L ++ z) = L ++ linesL z
  | [], _ => rfl
  | w :: L, h => by
    have ih := lines_txt (z := z) L fun v hv => h v (List.mem_cons_of_mem _ hv)
    show linesL ((w ++ [10] ++ txt L) ++ z) = _
    rw [show (w ++ [10] ++ txt L) ++ z = w ++ 10 :: (txt L ++ z) by simp, lines_cons (h w (by simp)), ih]; rfl
/-! ### Rounds -/
theorem go_cons {x : Bs} {s s' : Option (H × D)} (h : step s x = some s') : go (x :: L) k s = go L (k + 1) s' := by rw [go, h]
theorem row_words {word : Bs} {ns : List Bs} {v : List Int} (h : wordsL (Cf.row word ns v) = Cf.rowW word ns v) : ¬ (wordsL (Cf.row word ns v)).length = 0 := by rw [h, Cf.rowW_len]; omega
theorem go_calls {h : H} {d : D} {v : List Int} {L : List Bs} : ∀ (cs cs0 : List Cl) (k : Int), (∀ c ∈ cs, Cf.ClI c) → ∃ k', go (cs.map (fun c => Cf.row Cf.callW Cf.tails (Cf.clL c)) ++ L) k (some (h, d ++ [(v, cs0)])) = go L k' (some (h, d ++ [(v, cs0 ++ cs)]))
  | [], cs0, k, _ => ⟨k, by simp⟩
  | c :: cs, cs0, k, hc => by
    have hb := Cf.call_back (hc c (by simp))
    have hs : step (some (h, d ++ [(v, cs0)])) (Cf.row Cf.callW Cf.tails (Cf.clL c)) = some (some (h, d ++ [(v, cs0 ++ [c])])) := by
      rw [step_call (row_words (Cf.words_row (by decide) Cf.call_word Cf.tails_word)) (by show (Cf.numbers _ Cf.callW Cf.tails).2 = true; rw [hb]) (by simp), addC_last]
      have : callC (Cf.row Cf.callW Cf.tails (Cf.clL c)) = c := by
        unfold callC; rw [Cf.callL_yes (by rw [hb]), hb]; rfl
      rw [this]
    obtain ⟨k', ih⟩ := go_calls (L := L) (h := h) (d := d) (v := v) cs (cs0 ++ [c]) (k + 1) fun x hx => hc x (List.mem_cons_of_mem _ hx)
    refine ⟨k', ?_⟩
    rw [List.map_cons, List.cons_append, go_cons hs, ih]; simp
theorem go_svc {h : H} {d : D} {v : List Int} {cs : List Cl} (k : Int) (h13 : v.length = 13) (hI : Kn.I64s v) (hC : ∀ c ∈ cs, Cf.ClI c) : ∃ k', go (Cf.lines v cs ++ L) k (some (h, d)) = go L k' (some (h, d ++ [(v, cs)])) := by
  have hb := Cf.head_back h13 hI
  have hs : step (some (h, d)) (Cf.row Cf.svcW Cf.heads v) = some (some (h, d ++ [(v, [])])) := by
    rw [step_head (row_words (Cf.words_row (by decide) Cf.svc_word Cf.heads_word)) (by show (Cf.numbers _ Cf.svcW Cf.heads).2 = true; rw [hb])]
    rw [Cf.headL_yes (by rw [hb]), hb]
  obtain ⟨k', h2⟩ := go_calls (L := L) (h := h) (d := d) (v := v) cs [] (k + 1) hC
  refine ⟨k', ?_⟩
  unfold Cf.lines
  rw [List.cons_append, go_cons hs, h2]; rfl
theorem go_svcs {h : H} {L : List Bs} : ∀ (l : List Sg) (d : D) (k : Int), okS l → ∃ k', go (l.flatMap (fun s => Cf.lines s.nums s.cl) ++ L) k (some (h, d)) = go L k' (some (h, d ++ dat l))
  | [], d, k, _ => ⟨k, by simp [dat]⟩
  | s :: l, d, k, hI => by
    obtain ⟨k1, h1⟩ := go_svc (L := l.flatMap (fun s => Cf.lines s.nums s.cl) ++ L) (h := h) (d := d) k (v := s.nums) (cs := s.cl) rfl (hI s (by simp)).1 (hI s (by simp)).2
    obtain ⟨k2, h2⟩ := go_svcs (h := h) (L := L) l (d ++ [(s.nums, s.cl)]) k1 fun x hx => hI x (List.mem_cons_of_mem _ hx)
    refine ⟨k2, ?_⟩
    rw [List.flatMap_cons, List.append_assoc, h1, h2]; simp [dat]
/-- A site's text, with lines that say nothing ahead, blanks ahead of the first line and one line that says nothing behind. -/
theorem go_site {F : Bs} {Z : List Bs} (hI3 : Kn.I64s [b, c, r]) (hn : n < 18446744073709551616) (hI : okS l) (hF : wordsL F = wordsL (first b c r n)) (hZ : ∀ z ∈ Z, wordsL z = []) : go (F :: (linesK l l.length ++ Z)) k none = (((b, c, r, n), dat l), 0, 0) := by
  have hb := first_back hI3 hn
  have hc := fst_congr hF
  have hs : step none F = some (some ((b, c, r, n), [])) := by
    rw [step_first (by rw [hF, first_words]; simp) (by rw [hc.1]; exact hb.1), hc.2, hb.2]
  rw [go_cons hs]
  have ht : linesK l l.length = l.flatMap fun s => Cf.lines s.nums s.cl := by unfold linesK; rw [List.take_length]
  obtain ⟨k', h⟩ := go_svcs (h := (b, c, r, n)) (L := Z) l [] (k + 1) hI
  rw [ht, h, List.nil_append]
  have hz : ∀ (Z : List Bs) (k : Int) (s : H × D), (∀ z ∈ Z, wordsL z = []) → go Z k (some s) = (s, 0, 0) := by
    intro Z
    induction Z with
    | nil => intro k s _; rfl
    | cons z Z ih => intro k s hZ; rw [go_cons (step_blank (by rw [hZ z (by simp)]; rfl)), ih _ _ fun y hy => hZ y (List.mem_cons_of_mem _ hy)]
  exact hz Z k' _ hZ
theorem lines_text : linesL (text b c r n l) = first b c r n :: linesK l l.length := by
  unfold text
  have h := lines_txt (z := []) (first b c r n :: linesK l l.length) (fun w hw => by
    rcases List.mem_cons.1 hw with rfl | h
    · exact first_nl
    · exact linesK_nl w h)
  have h0 : linesL [] = [] := by decide
  rw [List.append_nil, h0, List.append_nil] at h
  exact h
theorem parse_back (hl : (text b c r n l).length ≤ 20000) (hI3 : Kn.I64s [b, c, r]) (hn : n < 18446744073709551616) (hI : okS l) : parse (text b c r n l) = (((b, c, r, n), dat l), 0, 0) := by
  unfold parse
  rw [if_neg (by omega), lines_text]
  have := go_site (k := 0) (Z := []) hI3 hn hI rfl (by simp)
  rw [List.append_nil] at this
  exact this
def more (rem t : Bs) : Bs := [10, 32, 35] ++ rem ++ [10, 9, 32] ++ t ++ [32, 9, 35] ++ rem
/-! ### How long a text is -/
theorem txt_svc {v : List Int} {cs : List Cl} (h1 : Kn.I64s v) (h2 : ∀ c ∈ cs, Cf.ClI c) (hc : cs.length ≤ 10) : (txt (Cf.lines v cs)).length ≤ 1945 := by
  have hr := Cf.row_len h1
  have hq : (txt (cs.map fun c => Cf.row Cf.callW Cf.tails (Cf.clL c))).length ≤ (150 + 1) * (cs.map fun c => Cf.row Cf.callW Cf.tails (Cf.clL c)).length := txt_len fun w hw => by
    obtain ⟨c, hc, rfl⟩ := List.mem_map.1 hw
    exact Cf.crow_len (h2 c hc)
  rw [List.length_map] at hq
  have : txt (Cf.lines v cs) = (Cf.row Cf.svcW Cf.heads v ++ [10]) ++ txt (cs.map fun c => Cf.row Cf.callW Cf.tails (Cf.clL c)) := rfl
  rw [this]; simp only [List.length_append, List.length_cons, List.length_nil]; omega
theorem txt_svcs : ∀ (l : List Sg), okS l → (∀ s ∈ l, s.cl.length ≤ 10) → (txt (l.flatMap fun s => Cf.lines s.nums s.cl)).length ≤ 1945 * l.length
  | [], _, _ => by simp [txt]
  | s :: l, hI, hc => by
    have ih := txt_svcs l (fun x hx => hI x (List.mem_cons_of_mem _ hx)) fun x hx => hc x (List.mem_cons_of_mem _ hx)
    have h1 := txt_svc (hI s (by simp)).1 (hI s (by simp)).2 (hc s (by simp))
    rw [List.flatMap_cons, txt_append, List.length_append, List.length_cons]; omega
theorem text_len (hI3 : Kn.I64s [b, c, r]) (hI : okS l) (hf : fewP l) : (text b c r n l).length ≤ 19611 := by
  have h1 := txt_svcs l hI hf.2
  have h2 := first_len (n := n) hI3
  have h3 := hf.1
  have : text b c r n l = (first b c r n ++ [10]) ++ txt (l.flatMap fun s => Cf.lines s.nums s.cl) := by
    unfold text linesK; rw [List.take_length]; rfl
  rw [this]; simp only [List.length_append, List.length_cons, List.length_nil]; omega
end
end Go.LK.Si

namespace Go.LK.Si
open Go Go.LK Go.LK.Wd
def chkND (b c : Int) (d : D) (k : Nat) : Bool := (List.range k).all fun i => match d[i]? with
  | some s => decide (Cf.check s.1 s.2 (i : Int) (d.length : Int) (b * c) = 0)
  | none => true
abbrev gD (d : D) : List (List Int) := d.map fun s => s.2.map Cl.to
section
variable {b c r : Int} {n k : Nat} {l m : List Sg} {d : D}
theorem dat_len : (dat l).length = l.length := List.length_map _
theorem dat_at {i : Nat} : (dat l)[i]? = l[i]?.map fun s => (s.nums, s.cl) := by unfold dat; rw [List.getElem?_map]
theorem chkN_dat : chkN b c l k = chkND b c (dat l) k := by
  unfold chkN chkND
  congr 1
  funext i
  rw [dat_at, dat_len]
  cases l[i]? <;> rfl
theorem gOf_dat : gOf l = gD (dat l) := by unfold gOf gD dat; rw [List.map_map]; rfl
theorem chk_dat (h1 : okL b c = true) (h2 : okU c r = true) (h3 : 1 ≤ (dat l).length) (h4 : chkND b c (dat l) (dat l).length = true) {o : List Nat} (h5 : Gr.ordN (gD (dat l)) (gD (dat l)).length = some o) : chk b c r l = 0 := by
  rw [dat_len] at h3 h4
  unfold chk
  rw [if_pos (by rw [chkN_dat, h4, h1, h2, decide_eq_true h3]; rfl), gOf_dat, Gr.loops_yes h5]
theorem us_chk (h : dat l = usK n n) (h1 : 1 ≤ n) (h8 : n ≤ 8) : chk 2 4 1000 l = 0 := by
  refine chk_dat (o := ((List.range n).map fun i => i)) (by decide) (by decide) ?_ ?_ ?_
  · rw [h]; unfold usK; simpa using h1
  · rw [h]
    obtain rfl | rfl | rfl | rfl | rfl | rfl | rfl | rfl : n = 1 ∨ n = 2 ∨ n = 3 ∨ n = 4 ∨ n = 5 ∨ n = 6 ∨ n = 7 ∨ n = 8 := by omega
    all_goals kernel_rfl
  · rw [h]
    obtain rfl | rfl | rfl | rfl | rfl | rfl | rfl | rfl : n = 1 ∨ n = 2 ∨ n = 3 ∨ n = 4 ∨ n = 5 ∨ n = 6 ∨ n = 7 ∨ n = 8 := by omega
    all_goals kernel_rfl
theorem us_mem {p : List Int × List Cl} (h : p ∈ usK n n) : ∃ k, k < n ∧ p = usd n k := by
  obtain ⟨k, hk, rfl⟩ := List.mem_map.1 h
  exact ⟨k, List.mem_range.1 hk, rfl⟩
theorem us_at (h : dat l = usK n n) {s : Sg} (hs : s ∈ l) : ∃ k, k < n ∧ (s.nums, s.cl) = usd n k := us_mem (h ▸ List.mem_map.2 ⟨s, hs, rfl⟩)
theorem us_len (h : dat l = usK n n) : l.length = n := by rw [← dat_len, h]; simp [usK]
theorem us_few (h : dat l = usK n n) (h8 : n ≤ 8) : fewP l := ⟨by rw [us_len h]; omega, fun s hs => by
  obtain ⟨k, _, he⟩ := us_at h hs
  have := congrArg Prod.snd he
  simp only [usd] at this
  rw [this]; split <;> simp⟩
theorem us_okS (h : dat l = usK n n) (h8 : n ≤ 8) : okS l := fun s hs => by
  obtain ⟨k, hk, he⟩ := us_at h hs
  have e1 : s.nums = [1, 4, 10, 1, 64, 20, 1, 4, 10, 5, 1, 3, 2] := congrArg Prod.fst he
  have e2 := congrArg Prod.snd he
  simp only [usd] at e2
  refine ⟨?_, ?_⟩
  · rw [e1]
    intro x hx
    have hh : ∀ x ∈ ([1, 4, 10, 1, 64, 20, 1, 4, 10, 5, 1, 3, 2] : List Int), 0 ≤ x ∧ x ≤ 100 := by decide
    have := hh x hx
    unfold Dc.I64; omega
  · rw [e2]
    intro c hc
    split at hc
    · rw [List.mem_singleton] at hc
      subst hc
      intro x hx
      simp only [Cf.clL, List.mem_cons, List.not_mem_nil, or_false] at hx
      unfold Dc.I64
      rcases hx with rfl | rfl | rfl | rfl <;> omega
    · cases hc
theorem us_I3 : Kn.I64s [2, 4, 1000] := fun x hx => by
  have hh : ∀ x ∈ ([2, 4, 1000] : List Int), 0 ≤ x ∧ x ≤ 1000 := by decide
  have := hh x hx
  unfold Dc.I64; omega
theorem us_text (h : dat l = usK n n) (h8 : n ≤ 8) : (text 2 4 1000 1 l).length ≤ 19611 := text_len us_I3 (us_okS h h8) (us_few h h8)
theorem us_back (h : dat l = usK n n) (h8 : n ≤ 8) : parse (text 2 4 1000 1 l) = (((2, 4, 1000, 1), dat l), 0, 0) := parse_back (Nat.le_trans (us_text h h8) (by decide)) us_I3 (by decide) (us_okS h h8)
theorem aw_parse : parse [35, 32, 110, 111, 110, 101, 10, 115, 105, 116, 101, 10] = (zero, 1, 2) := by kernel_rfl
theorem pair_eq {h h' : H} {d d' : D} {a b a' b' : Int} (e : ((h, d), a, b) = ((h', d'), a', b')) : h = h' ∧ d = d' ∧ a = a' ∧ b = b' := by
  injection e with e1 e2; injection e1 with e3 e4; injection e2 with e5 e6; exact ⟨e3, e4, e5, e6⟩
theorem site_eq {b c r b' c' r' : Int} {n n' : Nat} (e : (b, c, r, n) = (b', c', r', n')) : b = b' ∧ c = c' ∧ r = r' ∧ n = n' := by
  injection e with e1 e2; injection e2 with e3 e4; injection e4 with e5 e6; exact ⟨e1, e3, e5, e6⟩
/-- Two readings of one text are alike. -/
theorem same_parse {R : (H × D) × Int × Int} {b c r b' c' r' : Int} {n n' : Nat} {a e a' e' : Int} (h1 : R = (((b, c, r, n), dat l), a, e)) (h2 : R = (((b', c', r', n'), dat m), a', e')) : same b c r n l b' c' r' n' m = true ∧ a = a' ∧ e = e' := by
  obtain ⟨q1, q2, q3, q4⟩ := pair_eq (h1.symm.trans h2)
  obtain ⟨rfl, rfl, rfl, rfl⟩ := site_eq q1
  exact ⟨same_dat q2, q3, q4⟩
theorem same_self : same b c r n l b c r n l = true := same_dat rfl
theorem same_zero {R : (H × D) × Int × Int} {b c r : Int} {n : Nat} {a e a' e' : Int} (h1 : R = (((b, c, r, n), dat l), a, e)) (h2 : R = (zero, a', e')) : same b c r n l 0 0 0 0 [] = true ∧ a = a' ∧ e = e' := same_parse h1 h2
theorem m_cases (m : Int) : (m < 1 ∨ 8 < m) ∨ ∃ k : Nat, m = (k : Int) ∧ 1 ≤ k ∧ k ≤ 8 := by
  by_cases h : m < 1 ∨ 8 < m
  · exact .inl h
  · exact .inr ⟨m.toNat, by omega, by omega, by omega⟩
end
end Go.LK.Si
