/-
  Several texts in one: Report1, Report2.
-/
import Derived.Test.YtnkhmbbnabejhaaGreatDoorConfA
import Derived.Test.YtnkhmbbnabejhaaGreatDoorReport0
import Derived.Test.YtnkhmbbnabejhaaGreatDoorLevelA
namespace Go.LK.Rp
open Go Go.LK Go.LK.Wd
abbrev repW : Bs := [114, 101, 112, 111, 114, 116]
theorem names_word : ∀ w ∈ names, ∀ x ∈ w, bl x = false ∧ ¬ (x.toNat : Int) = 35 := by decide
theorem rep_word : ∀ x ∈ repW, bl x = false ∧ ¬ (x.toNat : Int) = 35 := by decide
def ofL (l : List Int) : Rep := ⟨l.getD 0 0, l.getD 1 0, l.getD 2 0, l.getD 3 0, l.getD 4 0, l.getD 5 0, l.getD 6 0, l.getD 7 0, l.getD 8 0, l.getD 9 0, l.getD 10 0, l.getD 11 0⟩
def line (r : Rep) : Bs := Cf.row repW names (nums r)
def parse (line : Bs) : Rep × Int := if (Cf.numbers line repW names).2 = true then (ofL (Cf.numbers line repW names).1, 0) else (zero, 2)
theorem parse_yes {line : Bs} (h : (Cf.numbers line repW names).2 = true) : parse line = (ofL (Cf.numbers line repW names).1, 0) := if_pos h
theorem parse_no {line : Bs} (h : ¬ (Cf.numbers line repW names).2 = true) : parse line = (zero, 2) := if_neg h
theorem parse_no' {line : Bs} (h : (Cf.numbers line repW names).2 = false) : parse line = (zero, 2) := parse_no (by rw [h]; simp)
theorem ex12 {l : List Int} (hl : l.length = 12) : ∃ x0 x1 x2 x3 x4 x5 x6 x7 x8 x9 x10 x11, l = [x0, x1, x2, x3, x4, x5, x6, x7, x8, x9, x10, x11] := by
  match l, hl with
  | [x0, x1, x2, x3, x4, x5, x6, x7, x8, x9, x10, x11], _ => exact ⟨x0, x1, x2, x3, x4, x5, x6, x7, x8, x9, x10, x11, rfl⟩
theorem parse_back {r : Rep} (hI : Kn.I64s (nums r)) : parse (line r) = (r, 0) := by
  have h := Cf.numbers_back (word := repW) (ns := names) (l := nums r) rfl hI (by decide) rep_word names_word
  rw [parse_yes (by rw [line, h]), line, h]; rfl
theorem line_len {r : Rep} (hI : Kn.I64s (nums r)) : (line r).length ≤ 400 := by
  have h := Wd.join_le (Cf.rowW repW names (nums r)) 29 (Cf.rowW_le (b := 7) (by decide) names_le hI)
  rw [Cf.rowW_len, show min names.length (nums r).length = 12 from rfl] at h
  exact Nat.le_trans h (by decide)
theorem keep_max (a b : Int) : (if keep b 2147483647 > keep a 2147483647 then keep b 2147483647 else keep a 2147483647) = keep (if b > a then b else a) 2147483647 := by
  unfold keep; (repeat' split) <;> omega
/-- Two reports together. -/
def plus (a b : Rep) : Rep := ⟨addC a.d0 b.d0, addC a.d1 b.d1, addC a.d2 b.d2, addC a.d3 b.d3, addC a.d4 b.d4, addC a.d5 b.d5, addC a.d6 b.d6, addC a.d7 b.d7, addC a.d8 b.d8, addC a.d9 b.d9, keep (if b.d10 > a.d10 then b.d10 else a.d10) 2147483647, share (addC a.d4 b.d4) (addC a.d0 b.d0)⟩
def awR : Rep := ⟨4, 4, 0, 4, 3, 0, 0, 0, 0, 0, 2, 75⟩
theorem aw_I : Kn.I64s (nums awR) := by
  intro x hx
  simp only [nums, awR, List.mem_cons, List.not_mem_nil, or_false] at hx
  unfold Dc.I64
  omega
end Go.LK.Rp

namespace Go.LK.Rp
open Go Go.LK Go.LK.Wd
section
variable {s : Int} {l f A B : List Ev} {k fr : Nat} {e v : Ev} {r x : Rep} {out : List Rep}
theorem last_get {α : Type} {A : List α} {x : α} : (A ++ [x])[A.length]? = some x := by simp
theorem last_set {α : Type} {A : List α} {x y : α} : (A ++ [x]).set A.length y = A ++ [y] := by simp
theorem last_get' {α : Type} {A : List α} {x y : α} : (A ++ [x])[(A ++ [y]).length - 1]? = some x := by simp
theorem last_set' {α : Type} {A : List α} {x y z : α} : (A ++ [x]).set ((A ++ [z]).length - 1) y = A ++ [y] := by simp
/-! ### Windows, out of the filtered row -/
def winStep (p : List Rep × Rep) (v : Ev) : List Rep × Rep := if v.kind = 9 then (p.1 ++ [shared (cnt p.2 v)], zero) else (p.1, shared (cnt p.2 v))
def winF (f : List Ev) (k : Nat) : List Rep × Rep := (f.take k).foldl winStep ([], zero)
theorem winF_next (he : f[k]? = some e) : winF f (k + 1) = winStep (winF f k) e := by
  unfold winF; rw [List.take_add_one, he, List.foldl_append]; rfl
theorem winF_end {A : List Rep} (h : (A, r) = winF f k) (he : f[k]? = some e) (hk : e.kind = 9) : (A ++ [shared (cnt r e)], zero) = winF f (k + 1) := by
  rw [winF_next he, ← h]; exact (if_pos hk).symm
theorem winF_on {A : List Rep} (h : (A, r) = winF f k) (he : f[k]? = some e) (hk : ¬ e.kind = 9) : (A, shared (cnt r e)) = winF f (k + 1) := by
  rw [winF_next he, ← h]; exact (if_neg hk).symm
/-! ### Windows, by places -/
def wS (s : Int) (l : List Ev) : Nat → List Rep × Nat
  | 0 => ([], 0)
  | k + 1 => match l[k]? with
    | some v => if v.s = s ∧ v.kind = 9 then ((wS s l k).1 ++ [counted s ((l.take (k + 1)).drop (wS s l k).2)], k + 1) else wS s l k
    | none => wS s l k
theorem wS_yes (h : (out, fr) = wS s l k) (he : l[k]? = some e) (hs : e.s = s) (hk : e.kind = 9) {a b : Nat} (ha : a = k + 1) (hb : b = fr) : (out ++ [counted s ((l.take a).drop b)], k + 1) = wS s l (k + 1) := by
  subst ha hb
  simp only [wS, he]
  rw [if_pos ⟨hs, hk⟩, ← h]
theorem wS_no (h : (out, fr) = wS s l k) (he : l[k]? = some e) (hk : ¬ (e.s = s ∧ e.kind = 9)) : (out, fr) = wS s l (k + 1) := by
  simp only [wS, he]
  rw [if_neg hk]; exact h
def wins (s : Int) (l : List Ev) : List Rep := (wS s l l.length).1 ++ [counted s (l.drop (wS s l l.length).2)]
theorem wins_end (h : (out, fr) = wS s l k) (hk : l.length ≤ k) (hk2 : k ≤ l.length) {b : Nat} (hb : b = fr) : out ++ [counted s (l.drop b)] = wins s l := by
  have : k = l.length := by omega
  subst this; subst hb
  unfold wins; rw [← h]
def win (s : Int) (l : List Ev) : List Rep × Int × Int := if (Ld.read l).2.2 = 0 then (wins s l, 0, 0) else ([], (Ld.read l).2.1, (Ld.read l).2.2)
theorem win_yes (h : (Ld.read l).2.2 = 0) : win s l = (wins s l, 0, 0) := if_pos h
theorem win_no (h : ¬ (Ld.read l).2.2 = 0) : win s l = ([], (Ld.read l).2.1, (Ld.read l).2.2) := if_neg h
/-! ### Both are the same -/
theorem shared_cnt : shared (cnt (shared r) v) = shared (cnt r v) := rfl
theorem counted_nil : counted s [] = zero := rfl
def cntL (s : Int) (l : List Ev) : Rep := (l.filter fun e => decide (e.s = s)).foldl cnt zero
theorem counted_is : counted s l = shared (cntL s l) := by unfold counted cntK cntL; rw [List.take_length]
theorem cntL_add (hs : v.s = s) : cntL s (l ++ [v]) = cnt (cntL s l) v := by unfold cntL; rw [List.filter_append, List.foldl_append]; simp [hs]
theorem cntL_skip (hs : ¬ v.s = s) : cntL s (l ++ [v]) = cntL s l := by unfold cntL; rw [List.filter_append, List.foldl_append]; simp [hs]
theorem counted_add (hs : v.s = s) : counted s (l ++ [v]) = shared (cnt (counted s l) v) := by rw [counted_is, cntL_add hs, counted_is, shared_cnt]
theorem counted_skip (hs : ¬ v.s = s) : counted s (l ++ [v]) = counted s l := by rw [counted_is, cntL_skip hs, counted_is]
def winL (f : List Ev) : List Rep × Rep := f.foldl winStep ([], zero)
theorem winF_all (hk : f.length ≤ k) : winF f k = winL f := by unfold winF winL; rw [List.take_of_length_le hk]
theorem winL_add : winL (f ++ [v]) = winStep (winL f) v := by unfold winL; rw [List.foldl_append]; rfl
theorem of_add (hs : v.s = s) : Mono.of s (l ++ [v]) = Mono.of s l ++ [v] := by unfold Mono.of; rw [List.filter_append]; simp [hs]
theorem of_skip (hs : ¬ v.s = s) : Mono.of s (l ++ [v]) = Mono.of s l := by unfold Mono.of; rw [List.filter_append]; simp [hs]
theorem win_inv (s : Int) (l : List Ev) : ∀ k, k ≤ l.length → (wS s l k).2 ≤ k ∧ winL (Mono.of s (l.take k)) = ((wS s l k).1, counted s ((l.take k).drop (wS s l k).2)) := by
  intro k
  induction k with
  | zero => intro _; exact ⟨Nat.le_refl _, rfl⟩
  | succ k ih =>
    intro hk
    obtain ⟨h1, h2⟩ := ih (by omega)
    obtain ⟨v, hv⟩ : ∃ v, l[k]? = some v := ⟨_, List.getElem?_eq_getElem (by omega)⟩
    have ht : l.take (k + 1) = l.take k ++ [v] := by rw [List.take_add_one, hv]; rfl
    have hlen : (l.take k).length = k := by rw [List.length_take]; omega
    have hd : (l.take (k + 1)).drop (wS s l k).2 = (l.take k).drop (wS s l k).2 ++ [v] := by rw [ht, List.drop_append_of_le_length (by omega)]
    by_cases hs : v.s = s
    · by_cases h9 : v.kind = 9
      · have hw : wS s l (k + 1) = ((wS s l k).1 ++ [counted s ((l.take (k + 1)).drop (wS s l k).2)], k + 1) := by
          show (match l[k]? with | some v => if v.s = s ∧ v.kind = 9 then _ else _ | none => _) = _
          rw [hv]; exact if_pos ⟨hs, h9⟩
        rw [hw]
        refine ⟨Nat.le_refl _, ?_⟩
        rw [hd, counted_add hs, ht, of_add hs, winL_add, h2]
        have : (l.take k ++ [v]).drop (k + 1) = [] := List.drop_eq_nil_of_le (by simp [hlen])
        rw [this, counted_nil]
        exact if_pos h9
      · have hw : wS s l (k + 1) = wS s l k := by
          show (match l[k]? with | some v => if v.s = s ∧ v.kind = 9 then _ else _ | none => _) = _
          rw [hv]; exact if_neg fun h => h9 h.2
        rw [hw]
        refine ⟨by omega, ?_⟩
        rw [hd, counted_add hs, ht, of_add hs, winL_add, h2]
        exact if_neg h9
    · have hw : wS s l (k + 1) = wS s l k := by
        show (match l[k]? with | some v => if v.s = s ∧ v.kind = 9 then _ else _ | none => _) = _
        rw [hv]; exact if_neg fun h => hs h.1
      rw [hw]
      refine ⟨by omega, ?_⟩
      rw [hd, counted_skip hs, ht, of_skip hs, h2]
theorem wins_is (s : Int) (l : List Ev) : wins s l = (winL (Mono.of s l)).1 ++ [(winL (Mono.of s l)).2] := by
  obtain ⟨h1, h2⟩ := win_inv s l l.length (Nat.le_refl _)
  rw [List.take_length] at h2
  unfold wins; rw [h2]
theorem winF_done {A : List Rep} (h : (A, r) = winF (Mono.of s l) k) (hk : (Mono.of s l).length ≤ k) : A ++ [r] = wins s l := by
  rw [winF_all hk] at h
  rw [wins_is, ← h]
/-! ### What they come to together -/
def fld (i : Nat) (r : Rep) : Int := (nums r).getD i 0
def prd (i : Nat) (v : Ev) : Bool := match i with
  | 0 => decide (v.kind = 1)
  | 1 => decide (v.kind = 1) && decide (v.code = 0)
  | 2 => decide (v.kind = 1) && decide (v.code = 2)
  | 3 => decide (v.kind = 3)
  | 4 => decide (v.kind = 4) && decide (v.code = 1)
  | 5 => decide (v.kind = 4) && decide (v.code ≠ 1)
  | 6 => decide (v.kind = 12)
  | 7 => decide (v.kind = 5)
  | 8 => decide (v.kind = 6)
  | _ => decide (v.kind = 9)
theorem ten {i : Nat} (h : i < 10) : i = 0 ∨ i = 1 ∨ i = 2 ∨ i = 3 ∨ i = 4 ∨ i = 5 ∨ i = 6 ∨ i = 7 ∨ i = 8 ∨ i = 9 := by omega
theorem fld_cnt {i : Nat} (h : i < 10) : fld i (cnt r v) = inc (prd i v) (fld i r) := by
  rcases ten h with h | h | h | h | h | h | h | h | h | h <;> subst h <;> rfl
theorem fld_shared {i : Nat} (h : i < 10) : fld i (shared r) = fld i r := by
  rcases ten h with h | h | h | h | h | h | h | h | h | h <;> subst h <;> rfl
theorem fld_plus {i : Nat} (h : i < 10) {a b : Rep} : fld i (plus a b) = addC (fld i a) (fld i b) := by
  rcases ten h with h | h | h | h | h | h | h | h | h | h <;> subst h <;> rfl
theorem fld_zero {i : Nat} (h : i < 10) : fld i zero = 0 := by
  rcases ten h with h | h | h | h | h | h | h | h | h | h <;> subst h <;> rfl
theorem inc_is {b : Bool} {n : Int} (h0 : 0 ≤ n) (h1 : n ≤ 1000000000) : inc b n = n + (if b then 1 else 0) := by
  cases b
  · simp [inc]
  · simp only [inc, if_true]
    rw [IntKind.wrap_i64]; omega
def sumF (i : Nat) (ws : List Rep) : Int := (ws.map (fld i)).sum
theorem sumF_add {i : Nat} {ws : List Rep} : sumF i (ws ++ [r]) = sumF i ws + fld i r := by unfold sumF; rw [List.map_append, List.sum_append]; simp
theorem win_fold {i : Nat} (h : i < 10) : ∀ (f : List Ev) (A : List Rep) (r : Rep), (∀ w ∈ A ++ [r], 0 ≤ fld i w) → fld i r + f.length ≤ 1000000000 →
    (∀ w ∈ (f.foldl winStep (A, r)).1 ++ [(f.foldl winStep (A, r)).2], 0 ≤ fld i w) ∧ sumF i ((f.foldl winStep (A, r)).1 ++ [(f.foldl winStep (A, r)).2]) = sumF i (A ++ [r]) + f.countP (prd i) := by
  intro f
  induction f with
  | nil => intro A r hA _; exact ⟨hA, by simp⟩
  | cons v f ih =>
    intro A r hA hb
    have h0 : 0 ≤ fld i r := hA r (by simp)
    simp only [List.length_cons] at hb
    have hv : fld i (shared (cnt r v)) = fld i r + (if prd i v then 1 else 0) := by rw [fld_shared h, fld_cnt h, inc_is h0 (by omega)]
    have hv0 : 0 ≤ fld i (shared (cnt r v)) := by rw [hv]; split <;> omega
    rw [List.foldl_cons, List.countP_cons]
    by_cases h9 : v.kind = 9
    · have hst : winStep (A, r) v = (A ++ [shared (cnt r v)], zero) := if_pos h9
      rw [hst]
      obtain ⟨g1, g2⟩ := ih (A ++ [shared (cnt r v)]) zero (fun w hw => by
        rcases List.mem_append.1 hw with hw | hw
        · rcases List.mem_append.1 hw with hw | hw
          · exact hA w (by simp [hw])
          · simp at hw; subst hw; exact hv0
        · simp at hw; subst hw; rw [fld_zero h]; omega) (by rw [fld_zero h]; omega)
      refine ⟨g1, ?_⟩
      rw [g2, sumF_add, sumF_add, sumF_add, hv, fld_zero h]
      split <;> simp <;> omega
    · have hst : winStep (A, r) v = (A, shared (cnt r v)) := if_neg h9
      rw [hst]
      obtain ⟨g1, g2⟩ := ih A (shared (cnt r v)) (fun w hw => by
        rcases List.mem_append.1 hw with hw | hw
        · exact hA w (by simp [hw])
        · simp at hw; subst hw; exact hv0) (by rw [hv]; split <;> omega)
      refine ⟨g1, ?_⟩
      rw [g2, sumF_add, sumF_add, hv]
      split <;> simp <;> omega
theorem win_len : ∀ (f : List Ev) (A : List Rep) (r : Rep), (f.foldl winStep (A, r)).1.length = A.length + f.countP (prd 9) := by
  intro f
  induction f with
  | nil => intro A r; simp
  | cons v f ih =>
    intro A r
    rw [List.foldl_cons, List.countP_cons]
    by_cases h9 : v.kind = 9
    · have hst : winStep (A, r) v = (A ++ [shared (cnt r v)], zero) := if_pos h9
      have hp : prd 9 v = true := decide_eq_true h9
      rw [hst, ih, hp]; simp; omega
    · have hst : winStep (A, r) v = (A, shared (cnt r v)) := if_neg h9
      have hp : prd 9 v = false := decide_eq_false h9
      rw [hst, ih, hp]; simp
theorem cnt_fold {i : Nat} (h : i < 10) : ∀ (f : List Ev) (r : Rep), 0 ≤ fld i r → fld i r + f.length ≤ 1000000000 → fld i (f.foldl cnt r) = fld i r + f.countP (prd i) := by
  intro f
  induction f with
  | nil => intro r _ _; simp
  | cons v f ih =>
    intro r h0 hb
    simp only [List.length_cons] at hb
    have hv : fld i (cnt r v) = fld i r + (if prd i v then 1 else 0) := by rw [fld_cnt h, inc_is h0 (by omega)]
    rw [List.foldl_cons, List.countP_cons, ih (cnt r v) (by rw [hv]; split <;> omega) (by rw [hv]; split <;> omega), hv]
    split <;> simp <;> omega
theorem fld_counted {i : Nat} (h : i < 10) (hl : l.length ≤ 80000) : fld i (counted s l) = (Mono.of s l).countP (prd i) := by
  have hle := Mono.of_len s l
  rw [counted_is, fld_shared h]
  show fld i ((Mono.of s l).foldl cnt zero) = _
  rw [cnt_fold h _ _ (by rw [fld_zero h]; omega) (by rw [fld_zero h]; omega), fld_zero h]; omega
theorem wins_fld {i : Nat} (h : i < 10) (hl : l.length ≤ 80000) : (∀ w ∈ wins s l, 0 ≤ fld i w) ∧ sumF i (wins s l) = fld i (counted s l) := by
  have hle := Mono.of_len s l
  obtain ⟨h1, h2⟩ := win_fold h (Mono.of s l) [] zero (fun w hw => by simp at hw; subst hw; rw [fld_zero h]; omega) (by rw [fld_zero h]; omega)
  rw [wins_is]
  refine ⟨h1, ?_⟩
  show sumF i ((List.foldl winStep ([], zero) (Mono.of s l)).1 ++ [(List.foldl winStep ([], zero) (Mono.of s l)).2]) = _
  rw [h2, fld_counted h hl]
  simp [sumF, fld_zero h]
theorem wins_length (hl : l.length ≤ 80000) : ((wins s l).length : Int) = (counted s l).d9 + 1 := by
  have h1 : (counted s l).d9 = fld 9 (counted s l) := rfl
  rw [h1, fld_counted (by omega) hl, wins_is, List.length_append]
  have := win_len (Mono.of s l) [] zero
  show (((List.foldl winStep ([], zero) (Mono.of s l)).1.length + 1 : Nat) : Int) = _
  rw [this]; simp
theorem plus_fold {i : Nat} (h : i < 10) : ∀ (ws : List Rep) (a : Rep), 0 ≤ fld i a → (∀ w ∈ ws, 0 ≤ fld i w) → fld i a + sumF i ws ≤ 2147483647 → fld i (ws.foldl plus a) = fld i a + sumF i ws := by
  intro ws
  induction ws with
  | nil => intro a _ _ _; simp [sumF]
  | cons w ws ih =>
    intro a ha hw hb
    have hw0 : 0 ≤ fld i w := hw w (by simp)
    have hs0 : 0 ≤ sumF i ws := by
      unfold sumF
      have : ∀ l : List Rep, (∀ w ∈ l, 0 ≤ fld i w) → 0 ≤ (l.map (fld i)).sum := by
        intro l
        induction l with
        | nil => intro _; simp
        | cons x l ih => intro hx; have h1 := hx x (by simp); have h2 := ih fun w hw => hx w (by simp [hw]); rw [List.map_cons, List.sum_cons]; omega
      exact this ws fun x hx => hw x (by simp [hx])
    have hsum : sumF i (w :: ws) = fld i w + sumF i ws := by unfold sumF; rw [List.map_cons, List.sum_cons]
    rw [hsum] at hb ⊢
    have hp : fld i (plus a w) = fld i a + fld i w := by
      rw [fld_plus h]; unfold addC
      rw [keep_of ha (by omega), keep_of hw0 (by omega), keep_of (by omega) (by omega)]
    rw [List.foldl_cons, ih (plus a w) (by rw [hp]; omega) (fun x hx => hw x (by simp [hx])) (by rw [hp]; omega), hp]; omega
theorem plus_share {ws : List Rep} (hne : ws ≠ []) (a : Rep) : (ws.foldl plus a).d11 = share (ws.foldl plus a).d4 (ws.foldl plus a).d0 := by
  rcases List.eq_nil_or_concat ws with h | ⟨A, x, h⟩
  · exact absurd h hne
  · rw [List.concat_eq_append] at h; subst h; rw [List.foldl_append]; rfl
theorem rep_ext {a b : Rep} (h : ∀ i, i < 10 → fld i a = fld i b) (h1 : a.d10 = b.d10) (h2 : a.d11 = b.d11) : a = b := by
  obtain ⟨a0, a1, a2, a3, a4, a5, a6, a7, a8, a9, a10, a11⟩ := a
  obtain ⟨b0, b1, b2, b3, b4, b5, b6, b7, b8, b9, b10, b11⟩ := b
  have g0 : a0 = b0 := h 0 (by omega)
  have g1 : a1 = b1 := h 1 (by omega)
  have g2 : a2 = b2 := h 2 (by omega)
  have g3 : a3 = b3 := h 3 (by omega)
  have g4 : a4 = b4 := h 4 (by omega)
  have g5 : a5 = b5 := h 5 (by omega)
  have g6 : a6 = b6 := h 6 (by omega)
  have g7 : a7 = b7 := h 7 (by omega)
  have g8 : a8 = b8 := h 8 (by omega)
  have g9 : a9 = b9 := h 9 (by omega)
  simp only at h1 h2
  subst g0 g1 g2 g3 g4 g5 g6 g7 g8 g9 h1 h2; rfl
theorem sum_is (hl : l.length ≤ 80000) : { (wins s l).foldl plus zero with d10 := (counted s l).d10 } = counted s l := by
  have key : ∀ i, i < 10 → fld i ((wins s l).foldl plus zero) = fld i (counted s l) := fun i hi => by
    obtain ⟨h1, h2⟩ := wins_fld (s := s) hi hl
    have hle := Mono.of_len s l
    have h3 := fld_counted (s := s) hi hl
    have h4 : (Mono.of s l).countP (prd i) ≤ (Mono.of s l).length := List.countP_le_length
    rw [plus_fold hi _ _ (by rw [fld_zero hi]; omega) h1 (by rw [fld_zero hi, h2]; omega), fld_zero hi, h2]; omega
  refine rep_ext (fun i hi => ?_) rfl ?_
  · rw [← key i hi]
    rcases ten hi with h | h | h | h | h | h | h | h | h | h <;> subst h <;> rfl
  · show ((wins s l).foldl plus zero).d11 = (counted s l).d11
    have h4 : ((wins s l).foldl plus zero).d4 = (counted s l).d4 := key 4 (by omega)
    have h0 : ((wins s l).foldl plus zero).d0 = (counted s l).d0 := key 0 (by omega)
    rw [plus_share (by unfold wins; simp), h4, h0]
    rfl
/-! ### The table -/
def lineT (name : Bs) (a g : Int) : Bs := [108, 101, 118, 101, 108, 32] ++ name ++ [32, 100, 101, 99, 105, 100, 101, 100, 32] ++ Lib.itoa a ++ [32, 103, 111, 111, 100, 32] ++ Lib.itoa g ++ [10]
theorem lineT_join (name : Bs) (a g : Int) : Lib.join [[108, 101, 118, 101, 108], name, [100, 101, 99, 105, 100, 101, 100], Lib.itoa a, [103, 111, 111, 100], Lib.itoa g] [32] ++ [10] = lineT name a g := by
  simp [Lib.join, lineT]
def tabK (b c : Int) (all good : List Int) : Nat → Bs
  | 0 => []
  | k + 1 => if 0 < all.getD k 0 then tabK b c all good k ++ lineT (Lv.text b c k).1 (all.getD k 0) (good.getD k 0) else tabK b c all good k
theorem tabK_yes {b c : Int} {all good : List Int} {a g : Int} (ha : all[k]? = some a) (hg : good[k]? = some g) (h : 0 < a) : tabK b c all good (k + 1) = tabK b c all good k ++ lineT (Lv.text b c k).1 a g := by
  simp only [tabK, List.getD_eq_getElem?_getD, ha, hg, Option.getD_some]; exact if_pos h
theorem tabK_no {b c : Int} {all good : List Int} {a : Int} (ha : all[k]? = some a) (h : ¬ 0 < a) : tabK b c all good (k + 1) = tabK b c all good k := by
  simp only [tabK, List.getD_eq_getElem?_getD, ha, Option.getD_some]; exact if_neg h
theorem name_len {b c l : Int} (h : Lv.Grid b c) : (Lv.text b c l).1.length ≤ 5 := by
  have hp := (show Lv.Ok b c from .inl h).parts l
  have h1 := Lv.itoa_len hp.1 hp.2.1
  have h2 := Lv.itoa_len hp.2.2.1 hp.2.2.2
  unfold Lv.text
  split
  · simp only [List.length_append, List.length_cons, List.length_nil]; omega
  · simp
theorem lineT_len {name : Bs} {a g : Int} (h1 : name.length ≤ 5) (h2 : (Lib.itoa a).length ≤ 21) (h3 : (Lib.itoa g).length ≤ 21) : (lineT name a g).length ≤ 100 := by
  unfold lineT; simp only [List.length_append, List.length_cons, List.length_nil]; omega
theorem join_len {name : Bs} {a g : Int} (h1 : name.length ≤ 5) (h2 : (Lib.itoa a).length ≤ 21) (h3 : (Lib.itoa g).length ≤ 21) : (Lib.join [[108, 101, 118, 101, 108], name, [100, 101, 99, 105, 100, 101, 100], Lib.itoa a, [103, 111, 111, 100], Lib.itoa g] [32]).length ≤ 100 := by
  have h4 := congrArg List.length (lineT_join name a g)
  have h5 := lineT_len h1 h2 h3
  rw [List.length_append] at h4
  simp only [List.length_cons, List.length_nil] at h4
  omega
theorem words_le {name : Bs} {a g : Int} (h1 : name.length ≤ 5) (h2 : (Lib.itoa a).length ≤ 21) (h3 : (Lib.itoa g).length ≤ 21) : ∀ x ∈ [([108, 101, 118, 101, 108] : Bs), name, [100, 101, 99, 105, 100, 101, 100], Lib.itoa a, [103, 111, 111, 100], Lib.itoa g], x.length ≤ 90000 := by
  intro x hx
  simp only [List.mem_cons, List.not_mem_nil, or_false] at hx
  rcases hx with h | h | h | h | h | h <;> subst h <;> first | omega | decide
theorem tabK_len {b c : Int} {all good : List Int} (h : Lv.Grid b c) (hA : Kn.I64s all) (hG : Kn.I64s good) : ∀ k, (tabK b c all good k).length ≤ 100 * k := by
  have hz : ∀ {l : List Int}, Kn.I64s l → ∀ k, Dc.I64 (l.getD k 0) := fun hl k => by
    rw [List.getD_eq_getElem?_getD]
    cases hx : (_ : List Int)[k]? with
    | none => exact ⟨by decide, by decide⟩
    | some x => exact hl x (List.mem_of_getElem? hx)
  intro k
  induction k with
  | zero => simp [tabK]
  | succ k ih =>
    simp only [tabK]
    split
    · have h1 := lineT_len (name_len (l := (k : Int)) h) (Lib.itoa_length_le _ (hz hA k).1 (hz hA k).2) (Lib.itoa_length_le _ (hz hG k).1 (hz hG k).2)
      rw [List.length_append]; omega
    · omega
theorem win_code {s : Int} {l : List Ev} : (win s l).2.2 = (Ld.read l).2.2 := by unfold win; split <;> simp_all
theorem of_code {s : Int} {l : List Ev} : (of s l).2.2 = (Ld.read l).2.2 := by unfold of; split <;> simp_all
theorem win_le {s : Int} {l : List Ev} (hl : l.length ≤ 80000) : (win s l).1.length ≤ l.length + 1 := by
  unfold win; split
  · have h1 := wins_length (s := s) hl
    have h2 : (counted s l).d9 = fld 9 (counted s l) := rfl
    have h3 := fld_counted (s := s) (i := 9) (by omega) hl
    have h4 : (Mono.of s l).countP (prd 9) ≤ (Mono.of s l).length := List.countP_le_length
    have h5 := Mono.of_len s l
    show (wins s l).length ≤ _
    omega
  · simp
theorem win_sum {s : Int} {l : List Ev} {q : Rep} (hl : l.length ≤ 80000) (h : (Ld.read l).2.2 = 0) (hq : q = ((win s l).1.take k).foldl plus zero) (hk : (win s l).1.length ≤ k) : { q with d10 := (of s l).1.d10 } = (of s l).1 := by
  rw [List.take_of_length_le hk, win_yes h] at hq
  rw [of_yes h, hq]; exact sum_is hl
theorem win_many {s : Int} {l : List Ev} (hl : l.length ≤ 80000) (h : (Ld.read l).2.2 = 0) : ((win s l).1.length : Int) = (of s l).1.d9 + 1 := by
  rw [win_yes h, of_yes h]; exact wins_length hl
def tabOk (b c : Int) (all good : List Int) : Prop := Lv.right b c = true ∧ (all.length : Int) = b * c ∧ (good.length : Int) = b * c
instance {b c : Int} {all good : List Int} : Decidable (tabOk b c all good) := by unfold tabOk; infer_instance
def tab (b c : Int) (all good : List Int) : Bs × Int := if tabOk b c all good then (tabK b c all good all.length, 0) else ([], 1)
theorem tab_yes {b c : Int} {all good : List Int} (h : tabOk b c all good) (hk : ¬ (k : Int) < (all.length : Int)) (hk2 : k ≤ all.length) : tab b c all good = (tabK b c all good k, 0) := by
  have : k = all.length := by omega
  subst this; exact if_pos h
theorem tab_no {b c : Int} {all good : List Int} (h : ¬ tabOk b c all good) : tab b c all good = ([], 1) := if_neg h
end
end Go.LK.Rp
