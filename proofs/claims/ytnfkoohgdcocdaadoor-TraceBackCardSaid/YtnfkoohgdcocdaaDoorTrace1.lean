/-
  The plain law of events as texts, further: texts of many, some of them, and how many there are.
-/
import Derived.Test.YtnfkoohgdcocdaaDoorTrace0
namespace Go.LK.Tc
open Go Go.LK Go.LK.Wd

theorem word_cons {k : Int} {e : Bs} (h0 : 1 ≤ k) (h1 : k ≤ 15) (he : ([] :: kinds : List Bs)[k.toNat]? = some e) : word k = (e, true) := by
  refine word_yes h0 h1 ?_
  obtain ⟨j, hj⟩ : ∃ j, k.toNat = j + 1 := ⟨k.toNat - 1, by omega⟩
  rw [hj, List.getElem?_cons_succ] at he
  rw [show (k - 1).toNat = j from by omega]
  exact he
theorem word_mem {k : Int} {e : Bs} (h : word k = (e, true)) : e ∈ kinds := by
  have := (word_is (k := k) (by rw [h])).2.2.1
  rw [h] at this; exact this
theorem line_out {v : Ev} (h : v.kind < 1 ∨ 15 < v.kind) : line v = ([], 1) := line_no (by rw [word_no h])
theorem line_at {v : Ev} {e : Bs} (h : word v.kind = (e, true)) : line v = (Lib.join (lineW v e) [32], 0) := by
  rw [line_yes (by rw [h]), h]
theorem list8 {α : Type} {l : List α} {a b c d e f g i : α} (h : l.length = 8) (h0 : l[0]? = some a) (h1 : l[1]? = some b) (h2 : l[2]? = some c) (h3 : l[3]? = some d) (h4 : l[4]? = some e) (h5 : l[5]? = some f) (h6 : l[6]? = some g) (h7 : l[7]? = some i) : l = [a, b, c, d, e, f, g, i] := by
  match l, h with
  | [_, _, _, _, _, _, _, _], _ => simp at h0 h1 h2 h3 h4 h5 h6 h7; simp [h0, h1, h2, h3, h4, h5, h6, h7]
def sOf (w : Bs) : Int := if w = client then -1 else (Dc.parse w).1
theorem sOf_yes {w : Bs} (h : (w == client) = true) : sOf w = -1 := if_pos (by simpa using h)
theorem sOf_no {w : Bs} (h : (w == client) = false) : sOf w = (Dc.parse w).1 := if_neg (by simpa using h)
theorem parse_go {s : Bs} {e0 e1 e2 e3 e4 e5 e6 e7 : Bs} {sv : Int} (hw : wordsL s = [e0, e1, e2, e3, e4, e5, e6, e7]) (hs : sOf e3 = sv) (h : evOk [e0, e1, e2, e3, e4, e5, e6, e7] = true) :
    parse s = (⟨(findR e2 kinds).1 + 1, (Dc.parse e1).1, sv, (Dc.parse e4).1, (Dc.parse e5).1, (Dc.parse e6).1, (Dc.parse e7).1⟩, 0) := by
  subst hs
  rw [parse, hw, parseW, h]; rfl
theorem parse_no {s : Bs} {ws : List Bs} (hw : wordsL s = ws) (h : evOk ws = false) : parse s = (noEv, 2) := by rw [parse, hw, parseW, h]; rfl
theorem find_bnd (w : Bs) : -9223372036854775808 ≤ (findR w kinds).1 + 1 ∧ (findR w kinds).1 + 1 ≤ 9223372036854775807 := by
  cases h : (findR w kinds).2 with
  | false => rw [findR_out h]; exact ⟨by decide, by decide⟩
  | true =>
    obtain ⟨k, h1, _, h3⟩ := findR_in h
    have h3' : k < 15 := h3
    rw [h1]
    exact ⟨by simp only []; omega, by simp only []; omega⟩
theorem ref_parse {s : Bs} (h8 : (wordsL s).length = 8) : (¬ (line (refEv (wordsL s))).2 = 0 → parse s = (noEv, 2)) ∧ (((line (refEv (wordsL s))).1 == Lib.join (wordsL s) [32]) = false → parse s = (noEv, 2)) ∧
    ((line (refEv (wordsL s))).2 = 0 → ((line (refEv (wordsL s))).1 == Lib.join (wordsL s) [32]) = true → parse s = (refEv (wordsL s), 0)) := by
  obtain ⟨h1, h2⟩ := ref_same h8 (words_Word s)
  have no : evOk (wordsL s) = false → parse s = (noEv, 2) := fun h => parse_no rfl h
  refine ⟨fun h => no ?_, fun h => no ?_, fun h h' => ?_⟩
  · cases hk : evOk (wordsL s)
    · rfl
    · exact absurd (h1.1 hk).1 h
  · cases hk : evOk (wordsL s)
    · rfl
    · rw [(h1.1 hk).2] at h; simp at h
  · have hk := h1.2 ⟨h, by simpa using h'⟩
    rw [h2 hk, parse, parseW, hk]; rfl
theorem ref_at {s : Bs} {e1 e2 e3 e4 e5 e6 e7 : Bs} {sv : Int} (h8 : (wordsL s).length = 8) (h1 : (wordsL s)[1]? = some e1) (h2 : (wordsL s)[2]? = some e2) (h3 : (wordsL s)[3]? = some e3) (h4 : (wordsL s)[4]? = some e4) (h5 : (wordsL s)[5]? = some e5) (h6 : (wordsL s)[6]? = some e6) (h7 : (wordsL s)[7]? = some e7) (hs : sOf e3 = sv) :
    refEv (wordsL s) = ⟨(findR e2 ([] :: kinds)).1, (Dc.parse e1).1, sv, (Dc.parse e4).1, (Dc.parse e5).1, (Dc.parse e6).1, (Dc.parse e7).1⟩ := by
  obtain ⟨e0, h0⟩ : ∃ e0, (wordsL s)[0]? = some e0 := ⟨_, List.getElem?_eq_getElem (by omega)⟩
  rw [list8 h8 h0 h1 h2 h3 h4 h5 h6 h7]
  subst hs; rfl
theorem neg1_I : Dc.I64 (-1) := ⟨by decide, by decide⟩
theorem kind_I (w : Bs) : Dc.I64 (findR w ([] :: kinds)).1 := by
  cases h : (findR w ([] :: kinds)).2 with
  | false => rw [findR_out h]; exact ⟨by decide, by decide⟩
  | true =>
    obtain ⟨k, h1, _, h3⟩ := findR_in h
    have h3' : k < 16 := h3
    rw [h1]
    exact ⟨by simp only []; omega, by simp only []; omega⟩
theorem parse_EvI (s : Bs) : EvI (parse s).1 := by
  have z : Dc.I64 0 := ⟨by decide, by decide⟩
  unfold parse parseW
  split
  · unfold evOf
    split
    · rename_i w0 w1 w2 w3 w4 w5 w6 w7 heq
      refine ⟨?_, parse_I _, ?_, parse_I _, parse_I _, parse_I _, parse_I _⟩
      · exact find_bnd w2
      · show Dc.I64 (if w3 = client then -1 else (Dc.parse w3).1)
        split
        · exact ⟨by decide, by decide⟩
        · exact parse_I _
    · exact ⟨z, z, z, z, z, z, z⟩
  · exact ⟨z, z, z, z, z, z, z⟩

theorem line_code {v : Ev} : (line v).2 = 0 ↔ (word v.kind).2 = true := by
  cases h : (word v.kind).2
  · rw [line_no h]; simp
  · rw [line_yes h]; simp
theorem line_code2 (v : Ev) : (line v).2 = 0 ∨ (line v).2 = 1 := by
  cases h : (word v.kind).2
  · rw [line_no h]; exact .inr rfl
  · rw [line_yes h]; exact .inl rfl
def textK (l : List Ev) (k : Nat) : Bs := ((l.take k).map fun v => (line v).1 ++ [10]).flatten
def text (l : List Ev) : Bs × Int := if l.all (fun v => (word v.kind).2) then (textK l l.length, 0) else ([], 1)
def good (l : List Ev) (k : Nat) : Prop := ∀ j v, j < k → l[j]? = some v → (word v.kind).2 = true
theorem good_zero {l : List Ev} : good l 0 := fun j _ h => absurd h (Nat.not_lt_zero j)
theorem good_next {l : List Ev} {k : Nat} {v : Ev} (h : good l k) (hv : l[k]? = some v) (hc : (line v).2 = 0) : good l (k + 1) := fun j u hj hu => by
  by_cases he : j = k
  · subst he; rw [hv] at hu; cases hu; exact line_code.1 hc
  · exact h j u (by omega) hu
theorem text_no {l : List Ev} {k : Nat} {v : Ev} (hv : l[k]? = some v) (hc : ¬ (line v).2 = 0) : text l = ([], (line v).2) := by
  have hw : (word v.kind).2 = false := by
    cases h : (word v.kind).2
    · rfl
    · exact absurd (line_code.2 h) hc
  rw [text, if_neg, line_no hw]
  intro hall
  have := List.all_eq_true.1 hall v (List.mem_of_getElem? hv)
  rw [hw] at this; cases this
theorem text_yes {l : List Ev} {k : Nat} (h : good l k) (hk : l.length ≤ k) : text l = (textK l k, 0) := by
  have ht : textK l l.length = textK l k := by unfold textK; rw [List.take_of_length_le (Nat.le_refl _), List.take_of_length_le hk]
  rw [text, if_pos, ht]
  refine List.all_eq_true.2 fun v hv => ?_
  obtain ⟨j, hj⟩ := List.mem_iff_getElem?.1 hv
  have := (List.getElem?_eq_some_iff.1 hj).1
  exact h j v (by omega) hj
theorem textK_zero {l : List Ev} : textK l 0 = [] := rfl
theorem textK_next {l : List Ev} {k : Nat} {v : Ev} (hv : l[k]? = some v) : textK l (k + 1) = textK l k ++ (line v).1 ++ [10] := by
  obtain ⟨hlt, rfl⟩ := List.getElem?_eq_some_iff.1 hv
  unfold textK
  rw [List.take_succ_eq_append_getElem hlt, List.map_append, List.flatten_append]
  simp
def EvsI (l : List Ev) : Prop := ∀ v ∈ l, EvI v
theorem EvsI.at {l : List Ev} (h : EvsI l) {k : Nat} {v : Ev} (hv : l[k]? = some v) : EvI v := h v (List.mem_of_getElem? hv)
theorem textK_len {l : List Ev} (hI : EvsI l) : ∀ k, (textK l k).length ≤ 177 * k
  | 0 => by simp [textK_zero]
  | k + 1 => by
    have ih := textK_len hI k
    cases hx : l[k]? with
    | none =>
      have h1 : l.take (k + 1) = l.take k := by
        have := List.getElem?_eq_none_iff.1 hx
        rw [List.take_of_length_le (by omega), List.take_of_length_le this]
      unfold textK at ih ⊢
      rw [h1]; omega
    | some v =>
      rw [textK_next hx]
      have := line_len (hI.at hx)
      simp only [List.length_append, List.length_cons, List.length_nil]; omega

theorem drop_go' {α : Type} {l : List α} {i : Nat} {c : α} (hc : l[i]? = some c) : l.drop i = c :: l.drop (i + 1) := by
  obtain ⟨hlt, rfl⟩ := List.getElem?_eq_some_iff.1 hc
  exact List.drop_eq_getElem_cons hlt

/-! ### A text's events -/
def pall : List Bs → Int → List Ev → List Ev × Int × Int
  | [], _, out => (out, 0, 0)
  | l :: ls, i, out => if (wordsL l).length = 0 then pall ls (i + 1) out else if (parse l).2 = 0 then pall ls (i + 1) (out ++ [(parse l).1]) else ([], i, (parse l).2)
def parseAll (s : Bs) : List Ev × Int × Int := pall (linesL s) 0 []
def PA (ls : List Bs) (k : Nat) (out : List Ev) (r : List Ev × Int × Int) : Prop := pall (ls.drop k) k out = r ∧ out.length ≤ k
section
variable {ls : List Bs} {k : Nat} {out : List Ev} {r : List Ev × Int × Int} {e : Bs}
theorem pa_zero {s : Bs} : PA (linesL s) 0 [] (parseAll s) := ⟨rfl, Nat.le_refl _⟩
theorem pa_skip (h : PA ls k out r) (he : ls[k]? = some e) (hw : (wordsL e).length = 0) : PA ls (k + 1) out r := by
  refine ⟨?_, by have := h.2; omega⟩
  have h1 := h.1
  rw [drop_go' he, pall, if_pos hw] at h1
  exact h1
theorem pa_add (h : PA ls k out r) (he : ls[k]? = some e) (hw : ¬ (wordsL e).length = 0) (hp : (parse e).2 = 0) : PA ls (k + 1) (out ++ [(parse e).1]) r := by
  refine ⟨?_, by have := h.2; simp; omega⟩
  have h1 := h.1
  rw [drop_go' he, pall, if_neg hw, if_pos hp] at h1
  exact h1
theorem pa_bad (h : PA ls k out r) (he : ls[k]? = some e) (hw : ¬ (wordsL e).length = 0) (hp : ¬ (parse e).2 = 0) : r = ([], (k : Int), (parse e).2) := by
  have h1 := h.1
  rw [drop_go' he, pall, if_neg hw, if_neg hp] at h1
  exact h1.symm
theorem pa_end (h : PA ls k out r) (hk : ¬ k < ls.length) : r = (out, 0, 0) := by
  have h1 := h.1
  rw [List.drop_eq_nil_of_le (by omega), pall] at h1
  exact h1.symm
end

/-! ### Some of the events -/
theorem sel_yes {p : Ev → Bool} {l : List Ev} {k : Nat} {e : Ev} (he : l[k]? = some e) (h : p e = true) : (l.take (k + 1)).filter p = (l.take k).filter p ++ [e] := by
  rw [List.take_add_one, he, List.filter_append]; simp [h]
theorem sel_no {p : Ev → Bool} {l : List Ev} {k : Nat} {e : Ev} (he : l[k]? = some e) (h : p e = false) : (l.take (k + 1)).filter p = (l.take k).filter p := by
  rw [List.take_add_one, he, List.filter_append]; simp [h]
theorem sel_all {p : Ev → Bool} {l : List Ev} {k : Nat} (hk : ¬ k < l.length) : (l.take k).filter p = l.filter p := by rw [List.take_of_length_le (by omega)]
def about (n : Int) (v : Ev) : Bool := (decide (1 ≤ v.kind) && decide (v.kind ≤ 6) || decide (12 ≤ v.kind) && decide (v.kind ≤ 14)) && decide (v.id = n)

/-! ### How many there are of each kind -/
def cntF (m : List Int) (v : Ev) : List Int := if 0 ≤ v.kind ∧ v.kind < 16 then m.set v.kind.toNat ((m[v.kind.toNat]?).getD 0 + 1) else m
def cntFrom (m : List Int) (l : List Ev) : List Int := l.foldl cntF m
def zeros16 : List Int := List.replicate 16 0
def cnt (l : List Ev) : List Int := cntFrom zeros16 l
theorem cntF_yes {m : List Int} {v : Ev} {x : Int} (h0 : 0 ≤ v.kind) (h1 : v.kind < 16) (hx : m[v.kind.toNat]? = some x) : cntF m v = m.set v.kind.toNat (x + 1) := by rw [cntF, if_pos ⟨h0, h1⟩, hx]; rfl
theorem cntF_no {m : List Int} {v : Ev} (h : ¬ (0 ≤ v.kind ∧ v.kind < 16)) : cntF m v = m := if_neg h
theorem cntF_len {m : List Int} {v : Ev} : (cntF m v).length = m.length := by unfold cntF; split <;> simp
theorem cnt_next {l : List Ev} {k : Nat} {e : Ev} (he : l[k]? = some e) : cnt (l.take (k + 1)) = cntF (cnt (l.take k)) e := by
  obtain ⟨hlt, rfl⟩ := List.getElem?_eq_some_iff.1 he
  unfold cnt cntFrom
  rw [List.take_succ_eq_append_getElem hlt, List.foldl_append]; rfl
theorem cntFrom_len : ∀ (l : List Ev) (m : List Int), (cntFrom m l).length = m.length
  | [], _ => rfl
  | v :: l, m => by
    show (cntFrom (cntF m v) l).length = _
    rw [cntFrom_len l, cntF_len]
theorem cnt_len (l : List Ev) : (cnt l).length = 16 := by rw [cnt, cntFrom_len]; rfl
theorem cntFrom_le : ∀ (l : List Ev) (m : List Int) (b : Int), (∀ x ∈ m, 0 ≤ x ∧ x ≤ b) → 0 ≤ b → ∀ x ∈ cntFrom m l, 0 ≤ x ∧ x ≤ b + l.length
  | [], m, b, h, _, x, hx => by have := h x hx; simp; omega
  | v :: l, m, b, h, hb, x, hx => by
    have h2 : ∀ y ∈ cntF m v, 0 ≤ y ∧ y ≤ b + 1 := fun y hy => by
      unfold cntF at hy
      split at hy
      · rcases List.mem_or_eq_of_mem_set hy with hy | hy
        · have := h y hy; omega
        · subst hy
          cases hg : m[v.kind.toNat]? with
          | none => simp; omega
          | some z => have := h z (List.mem_of_getElem? hg); simp; omega
      · have := h y hy; omega
    have := cntFrom_le l (cntF m v) (b + 1) h2 (by omega) x hx
    simp only [List.length_cons]; omega
theorem cnt_le {l : List Ev} {k j : Nat} {x : Int} (hx : (cnt (l.take k))[j]? = some x) : 0 ≤ x ∧ x ≤ k := by
  have := cntFrom_le (l.take k) zeros16 0 (by intro y hy; have := List.eq_of_mem_replicate hy; omega) (by omega) x (List.mem_of_getElem? hx)
  rw [List.length_take] at this
  omega
theorem cnt_all {l : List Ev} {k : Nat} (hk : ¬ k < l.length) : cnt (l.take k) = cnt l := by rw [List.take_of_length_le (by omega)]
end Go.LK.Tc
