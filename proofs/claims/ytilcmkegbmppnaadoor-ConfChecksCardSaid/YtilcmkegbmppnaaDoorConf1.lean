/-
  The plain law of services' lines: they come back; and which services are alike.
-/
import Derived.Test.YtilcmkegbmppnaaDoorConf0
namespace Go.LK.Cf
open Go Go.LK Go.LK.Wd
theorem svc_word : ∀ x ∈ svcW, bl x = false ∧ ¬ (x.toNat : Int) = 35 := by decide
theorem call_word : ∀ x ∈ callW, bl x = false ∧ ¬ (x.toNat : Int) = 35 := by decide
section
variable {word : Bs} {ns : List Bs} {l : List Int}
theorem rowW_word (h0 : word ≠ []) (hw : ∀ x ∈ word, bl x = false ∧ ¬ (x.toNat : Int) = 35) (hn : ∀ w ∈ ns, ∀ x ∈ w, bl x = false ∧ ¬ (x.toNat : Int) = 35) : ∀ w ∈ rowW word ns l, Word w := fun w h => by
  rcases rowW_mem h with rfl | ⟨n, h1, x, _, rfl⟩
  · exact ⟨h0, hw⟩
  · exact nv_word (hn n h1) x
theorem words_row (h0 : word ≠ []) (hw : ∀ x ∈ word, bl x = false ∧ ¬ (x.toNat : Int) = 35) (hn : ∀ w ∈ ns, ∀ x ∈ w, bl x = false ∧ ¬ (x.toNat : Int) = 35) : wordsL (row word ns l) = rowW word ns l := words_join rowW_ne (rowW_word h0 hw hn)
theorem cut_nv (n : Bs) (x : Int) : cutPre (nv n x) (n ++ [61]) = (Lib.itoa x, true) := by
  unfold nv
  rw [cutPre_yes (hasP_app _ _), List.drop_left]
theorem numN_back (hl : l.length = ns.length) (hI : Kn.I64s l) : ∀ k, k ≤ ns.length → numN (rowW word ns l) ns k = some (l.take k)
  | 0, _ => by simp [numN]
  | k + 1, hk => by
    have h1 : ns[k]? = some ns[k] := List.getElem?_eq_getElem (by omega)
    have h2 : l[k]? = some l[k] := List.getElem?_eq_getElem (by omega)
    have hc := cut_nv ns[k] l[k]
    have hp := Dc.parse_some (hI _ (List.getElem_mem (by omega : k < l.length)))
    have := num_next (numN_back hl hI k (by omega)) (rowW_at h1 h2) h1 (by rw [hc]) (by rw [hc, hp])
    rw [this, hc, hp, List.take_add_one, h2]; rfl
theorem numbers_back (hl : l.length = ns.length) (hI : Kn.I64s l) (h0 : word ≠ []) (hw : ∀ x ∈ word, bl x = false ∧ ¬ (x.toNat : Int) = 35) (hn : ∀ w ∈ ns, ∀ x ∈ w, bl x = false ∧ ¬ (x.toNat : Int) = 35) : numbers (row word ns l) word ns = (l, true) := by
  have h := words_row (l := l) h0 hw hn
  have := numbers_all (line := row word ns l) (word := word) (ns := ns) (k := ns.length) (out := l) (e := word) (by rw [h, rowW_len]; omega) (by rw [h]; rfl) (by simp) (by rw [h, numN_back hl hI _ (Nat.le_refl _), List.take_of_length_le (by omega)]) rfl
  exact this
theorem numbers_other {w2 : Bs} {n2 : List Bs} (h0 : word ≠ []) (hw : ∀ x ∈ word, bl x = false ∧ ¬ (x.toNat : Int) = 35) (hn : ∀ w ∈ ns, ∀ x ∈ w, bl x = false ∧ ¬ (x.toNat : Int) = 35) (h : (word == w2) = false) : numbers (row word ns l) w2 n2 = ([], false) := by
  have h := numbers_word (line := row word ns l) (word := w2) (ns := n2) (e := word) (by rw [words_row h0 hw hn]; rfl) h
  exact h
end
theorem head_back {n : List Int} (h : n.length = 13) (hI : Kn.I64s n) : numbers (row svcW heads n) svcW heads = (n, true) := numbers_back (by rw [h, heads_len]) hI (by decide) svc_word heads_word
theorem call_back {c : Cl} (hI : ClI c) : numbers (row callW tails (clL c)) callW tails = (clL c, true) := numbers_back rfl hI (by decide) call_word tails_word
theorem call_head (l : List Int) : numbers (row callW tails l) svcW heads = ([], false) := numbers_other (by decide) call_word tails_word (by decide)
section
variable {n : List Int} {cs : List Cl} {k : Nat} {e : Bs}
theorem lines_0 (h : (lines n cs)[0]? = some e) : e = row svcW heads n := by cases h; rfl
theorem lines_k {c : Cl} (h : (lines n cs)[k + 1]? = some e) (hc : cs[k]? = some c) : e = row callW tails (clL c) := by
  unfold lines at h
  rw [List.getElem?_cons_succ, List.getElem?_map, hc] at h
  exact (Option.some.inj h).symm
theorem lines_kc (h : (lines n cs)[k + 1]? = some e) : ∃ c, cs[k]? = some c ∧ e = row callW tails (clL c) := by
  unfold lines at h
  rw [List.getElem?_cons_succ, List.getElem?_map] at h
  cases hc : cs[k]? with
  | none => rw [hc] at h; cases h
  | some c => rw [hc] at h; exact ⟨c, rfl, (Option.some.inj h).symm⟩
theorem row_len (hI : Kn.I64s n) : (row svcW heads n).length ≤ 434 := by
  have h := join_le (rowW svcW heads n) 30 (fun w hw => by
    have := rowW_le (b := 8) (by decide) (fun x hx => Nat.le_trans (heads_le x hx) (by decide)) hI w hw
    exact this)
  have h2 := rowW_len (word := svcW) (ns := heads) (l := n)
  rw [heads_len] at h2
  unfold row
  have h3 : 31 * (rowW svcW heads n).length ≤ 31 * 14 := Nat.mul_le_mul_left _ (by omega)
  exact Nat.le_trans h h3
theorem crow_len {c : Cl} (hI : ClI c) : (row callW tails (clL c)).length ≤ 150 := by
  have h := join_le (rowW callW tails (clL c)) 29 (fun w hw => by
    have := rowW_le (b := 7) (by decide) (fun x hx => tails_le x hx) hI w hw
    exact this)
  have h2 : (rowW callW tails (clL c)).length = 5 := by rw [rowW_len]; rfl
  unfold row
  rw [h2] at h
  exact h
theorem lines_le (hn : Kn.I64s n) (hI : ∀ c ∈ cs, ClI c) : ∀ w ∈ lines n cs, w.length ≤ 434 := fun w h => by
  rcases List.mem_cons.1 h with rfl | h
  · exact row_len hn
  · obtain ⟨c, hc, rfl⟩ := List.mem_map.1 h
    exact Nat.le_trans (crow_len (hI c hc)) (by decide)
theorem cl_of {c d : Cl} (h : clL c = clL d) : c = d := by
  cases c; cases d
  simp only [clL, List.cons.injEq, and_true] at h
  obtain ⟨rfl, rfl, rfl, rfl⟩ := h
  rfl
theorem take_next {c : Cl} (h : cs[k]? = some c) : cs.take k ++ [c] = cs.take (k + 1) := by rw [List.take_add_one, h]; rfl
end
theorem hasP_of {p s : Bs} (h : p.length ≤ s.length) : hasP p s = (s.take p.length == p) := by simp [hasP, h]
/-! ### What is awake -/
theorem it20 : Lib.itoa 20 = [50, 48] := by
  rw [Dc.itoa_pos (by decide), show (20 : Int).toNat = 20 from rfl, Dc.dec_big (by decide), Dc.dec_small (by decide)]
  rfl
theorem aw_row : row callW tails [1, 0, 4, 20] = [99, 97, 108, 108, 32, 116, 111, 61, 49, 32, 116, 105, 101, 114, 61, 48, 32, 119, 101, 105, 103, 104, 116, 61, 52, 32, 109, 111, 115, 116, 61, 50, 48] := by
  have h1 := Kn.it1 1 (by omega)
  have h0 := Kn.it1 0 (by omega)
  have h4 := Kn.it1 4 (by omega)
  simp only [Int.cast_ofNat_Int] at h0 h1 h4
  simp only [row, rowW, tails, List.zip_cons_cons, List.zip_nil_left, List.map_cons, List.map_nil, nv, h0, h1, h4, it20]
  decide
theorem aw_I : Kn.I64s [2, 8, 10, 1, 9, 50, 1, 4, 10, 5, 1, 3, 2] := by
  intro x hx
  simp only [List.mem_cons, List.not_mem_nil, or_false] at hx
  unfold Dc.I64
  omega
theorem aw_C : ClI ⟨1, 0, 4, 20⟩ := by
  intro x hx
  simp only [clL, List.mem_cons, List.not_mem_nil, or_false] at hx
  unfold Dc.I64
  omega
theorem aw_Cs : ∀ c ∈ [(⟨1, 0, 4, 20⟩ : Cl)], ClI c := fun c h => by
  rw [List.mem_singleton.1 h]; exact aw_C
theorem aw_line {e : Bs} (h : (lines [2, 8, 10, 1, 9, 50, 1, 4, 10, 5, 1, 3, 2] [(⟨1, 0, 4, 20⟩ : Cl)])[1]? = some e) : (e == ([99, 97, 108, 108, 32, 116, 111, 61, 49, 32, 116, 105, 101, 114, 61, 48, 32, 119, 101, 105, 103, 104, 116, 61, 52, 32, 109, 111, 115, 116, 61, 50, 48] : List UInt8)) = true := by
  rw [lines_k (k := 0) h rfl, show clL ⟨1, 0, 4, 20⟩ = [1, 0, 4, 20] from rfl, aw_row]; rfl
section
variable {α : Type} {p : α → Prop} {l : List α} {k : Nat} {e : α}
theorem all_next (h : ∀ x ∈ l.take k, p x) (he : l[k]? = some e) (hp : p e) : ∀ x ∈ l.take (k + 1), p x := by
  intro x hx
  rw [List.take_add_one, he, List.mem_append] at hx
  rcases hx with hx | hx
  · exact h x hx
  · simp at hx; rw [hx]; exact hp
theorem all_end (h : ∀ x ∈ l.take k, p x) (hk : ¬ k < l.length) : ∀ x ∈ l, p x := by
  rwa [List.take_of_length_le (by omega)] at h
end
/-! ### Alike -/
section
variable {α : Type} {f : α → List Int} {l m : List α} {k : Nat} {x y : α}
theorem eqP_next (h : (l.take k).map f = (m.take k).map f) (hx : l[k]? = some x) (hy : m[k]? = some y) (he : f x = f y) : (l.take (k + 1)).map f = (m.take (k + 1)).map f := by
  rw [List.take_add_one, List.take_add_one, hx, hy, List.map_append, List.map_append, h]
  simp [he]
theorem eqP_all (h : (l.take k).map f = (m.take k).map f) (h1 : l.length ≤ k) (h2 : m.length ≤ k) : l.map f = m.map f := by
  rwa [List.take_of_length_le h1, List.take_of_length_le h2] at h
theorem eqP_bad (hx : l[k]? = some x) (hy : m[k]? = some y) (he : ¬ f x = f y) : ¬ l.map f = m.map f := fun h => he (by
  have := congrArg (·[k]?) h
  simpa [hx, hy] using this)
theorem eqP_len (h : ¬ l.length = m.length) : ¬ l.map f = m.map f := fun he => h (by simpa using congrArg List.length he)
end
def one (n : Int) : List Int := [n]
theorem one_eq {l m : List Int} : l.map one = m.map one ↔ l = m := by
  constructor
  · intro h
    have := congrArg (List.map fun (r : List Int) => r.headD 0) h
    simpa [one, Function.comp_def] using this
  · intro h; rw [h]
def sameI (l m : List Int) : Bool := decide (l.map one = m.map one)
def sameC (l m : List Cl) : Bool := decide (l.map clL = m.map clL)
theorem sameI_self (l : List Int) : sameI l l = true := by simp [sameI]
theorem sameC_self (l : List Cl) : sameC l l = true := by simp [sameC]
/-! ### What the document asks of calls -/
theorem room_iff {a b c d e f x6 x7 x8 x9 x10 x11 x12 : Int} : roomOk [a, b, c, d, e, f, x6, x7, x8, x9, x10, x11, x12] = (from_ a 1 16 && from_ b 1 64 && from_ c 1 64 && from_ d 0 7 && from_ e 0 256 && from_ f 0 1099511627776) := rfl
theorem kn_check (l : List Int) (m : Int) : Kn.check l m = 0 ∨ Kn.check l m = 10 := by unfold Kn.check; split <;> simp
theorem anyP_next {cs : List Cl} {j : Nat} {c d : Cl} (h : ((cs.take j).any fun d => decide (d.to = c.to)) = false) (hd : cs[j]? = some d) (hne : ¬ d.to = c.to) : ((cs.take (j + 1)).any fun d => decide (d.to = c.to)) = false := by
  rw [List.take_add_one, hd, List.any_append, h]; simp [hne]
theorem anyP_hit {cs : List Cl} {i j : Nat} {c d : Cl} (hd : cs[j]? = some d) (hj : j < i) (he : d.to = c.to) : ((cs.take i).any fun d => decide (d.to = c.to)) = true := by
  refine List.any_eq_true.2 ⟨d, ?_, by simp [he]⟩
  exact List.mem_of_getElem? (i := j) (by rw [List.getElem?_take, if_pos hj, hd])
theorem check_ten {l : List Int} {cs : List Cl} {self services levels : Int} (h : ¬ Kn.check (l.drop 6) levels = 0) : check l cs self services levels = 10 := by
  unfold check
  split
  · rcases kn_check (l.drop 6) levels with h2 | h2
    · exact absurd h2 h
    · exact h2
  · rfl
theorem callsOk_len {cs : List Cl} {tiers self services : Int} {k : Nat} (h : okU cs tiers self services k = true) (hk : ¬ k < cs.length) (hk2 : k ≤ cs.length) : callsOk cs tiers self services = decide ((cs.length : Int) ≤ 6) := by
  have : k = cs.length := by omega
  subst this
  rw [callsOk, h, Bool.and_true, decide_eq_decide]
  omega
theorem check_no13 {x0 x1 x2 x3 x4 x5 x6 x7 x8 x9 x10 x11 x12 : Int} {cs : List Cl} {self services levels : Int} (h : (from_ services 1 8 && from_ self 0 (services - 1) && (from_ x0 1 16 && from_ x1 1 64 && from_ x2 1 64 && from_ x3 0 7 && from_ x4 0 256 && from_ x5 0 1099511627776) && callsOk cs x3 self services) = false) : check [x0, x1, x2, x3, x4, x5, x6, x7, x8, x9, x10, x11, x12] cs self services levels = 10 := check_no h
theorem check_yes13 {x0 x1 x2 x3 x4 x5 x6 x7 x8 x9 x10 x11 x12 : Int} {cs : List Cl} {self services levels : Int} (h1 : from_ services 1 8 = true) (h2 : from_ self 0 (services - 1) = true) (h3 : (from_ x0 1 16 && from_ x1 1 64 && from_ x2 1 64 && from_ x3 0 7 && from_ x4 0 256 && from_ x5 0 1099511627776) = true) (h4 : callsOk cs x3 self services = true) : check [x0, x1, x2, x3, x4, x5, x6, x7, x8, x9, x10, x11, x12] cs self services levels = Kn.check [x6, x7, x8, x9, x10, x11, x12] levels := check_yes h1 h2 h3 h4
theorem check_ten13 {x0 x1 x2 x3 x4 x5 x6 x7 x8 x9 x10 x11 x12 : Int} {cs : List Cl} {self services levels : Int} (h : ¬ Kn.check [x6, x7, x8, x9, x10, x11, x12] levels = 0) : check [x0, x1, x2, x3, x4, x5, x6, x7, x8, x9, x10, x11, x12] cs self services levels = 10 := check_ten h
/-- A row of the calls that are required, or of the others. -/
abbrev want (r : Bool) (c : Cl) : Bool := decide (c.tier = 0) == r
theorem want_t (cs : List Cl) : cs.filter (want true) = cs.filter fun c => decide (c.tier = 0) := by congr 1; funext c; simp [want]
theorem want_f (cs : List Cl) : cs.filter (want false) = cs.filter fun c => decide (c.tier ≠ 0) := by congr 1; funext c; simp [want]
theorem split_len (cs : List Cl) : (cs.filter fun c => decide (c.tier = 0)).length + (cs.filter fun c => decide (c.tier ≠ 0)).length = cs.length := by
  induction cs with
  | nil => rfl
  | cons c cs ih => by_cases h : c.tier = 0 <;> simp [h] at ih ⊢ <;> omega
end Go.LK.Cf
