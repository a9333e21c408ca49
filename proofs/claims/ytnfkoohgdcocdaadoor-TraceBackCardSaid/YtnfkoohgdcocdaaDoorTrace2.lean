/-
  The plain law of events as texts, last: what is told comes back; what is counted of each service is, together, what is counted of all.
-/
import Derived.Test.YtnfkoohgdcocdaaDoorTrace1
namespace Go.LK.Tc
open Go Go.LK Go.LK.Wd

/-! ### No line has a line's end -/
theorem join_mem : ∀ (l : List Bs) (x : UInt8), x ∈ Lib.join l [32] → x = 32 ∨ ∃ w ∈ l, x ∈ w
  | [], x, h => by simp [Lib.join, List.intercalate] at h
  | [w], x, h => by rw [Lib.join_one] at h; exact .inr ⟨w, by simp, h⟩
  | w :: u :: r, x, h => by
    rw [join_cons2 (by simp)] at h
    rcases List.mem_append.1 h with h | h
    · exact .inr ⟨w, by simp, h⟩
    · rcases List.mem_append.1 h with h | h
      · exact .inl (by simpa using h)
      · rcases join_mem (u :: r) x h with h | ⟨v, hv, hx⟩
        · exact .inl h
        · exact .inr ⟨v, List.mem_cons_of_mem _ hv, hx⟩
def NoNl (w : Bs) : Prop := ∀ x ∈ w, nl x = false
theorem itoa_nl (n : Int) : NoNl (Lib.itoa n) := fun x hx => by
  have := itoa_byte x hx
  unfold Dc.isD at this
  simp only [nl, decide_eq_false_iff_not]
  omega
theorem kinds_nl : ∀ w ∈ kinds, NoNl w := by
  have h : ∀ w ∈ kinds, ∀ x ∈ w, nl x = false := by decide
  exact h
theorem who_nl (n : Int) : NoNl (who n) := by
  unfold who; split
  · have h : ∀ x ∈ client, nl x = false := by decide
    exact h
  · exact itoa_nl n
theorem line_nl {v : Ev} (h : (word v.kind).2 = true) : NoNl (line v).1 := fun x hx => by
  rw [line_yes h] at hx
  rcases join_mem _ x hx with rfl | ⟨w, hw, hxw⟩
  · rfl
  · simp only [lineW, List.mem_cons, List.not_mem_nil, or_false] at hw
    rcases hw with rfl | rfl | rfl | rfl | rfl | rfl | rfl | rfl
    · have h2 : ∀ x ∈ atW, nl x = false := by decide
      exact h2 x hxw
    · exact itoa_nl _ x hxw
    · exact kinds_nl _ (word_is h).2.2.1 x hxw
    · exact who_nl _ x hxw
    all_goals exact itoa_nl _ x hxw
theorem lines_cons {a b : Bs} (h : NoNl a) : linesL (a ++ 10 :: b) = a :: linesL b := by
  have hp : parts nl (-1) (a ++ 10 :: b) = a :: parts nl (-1) b := by
    unfold parts
    rw [until_neg, until_neg, cutP_sep h (by decide)]
  obtain ⟨x, t, hb⟩ := List.exists_cons_of_ne_nil (parts_ne (p := nl) (e := -1) (s := b))
  have hl : (a :: parts nl (-1) b).getLast? = (parts nl (-1) b).getLast? := by rw [hb]; simp
  unfold linesL
  rw [hp, hl]
  split
  · rw [hb]; simp
  · rfl
theorem lines_text : ∀ (l : List Ev), (∀ v ∈ l, (word v.kind).2 = true) → linesL ((l.map fun v => (line v).1 ++ [10]).flatten ++ [35]) = l.map (fun v => (line v).1) ++ [[35]]
  | [], _ => by decide
  | v :: l, h => by
    have ih := lines_text l (fun u hu => h u (by simp [hu]))
    rw [List.map_cons, List.flatten_cons, List.append_assoc, List.append_assoc]
    rw [show (line v).1 ++ ([10] ++ ((l.map fun v => (line v).1 ++ [10]).flatten ++ [35])) = (line v).1 ++ 10 :: ((l.map fun v => (line v).1 ++ [10]).flatten ++ [35]) from rfl]
    rw [lines_cons (line_nl (h v (by simp))), ih]; rfl
/-! ### Back -/
theorem kinds_find : ∀ j : _root_.Fin 15, findR (kinds[j.val]) kinds = ((j.val : Int), true) := by decide
theorem word_findR {k : Int} (h : (word k).2 = true) : findR (word k).1 kinds = (k - 1, true) := by
  obtain ⟨h0, h1, _, h3⟩ := word_is h
  have hj : (k - 1).toNat < 15 := by omega
  have hw := word_some h0 h1
  rw [h3]
  have := kinds_find ⟨(k - 1).toNat, hj⟩
  have he : kinds[(k - 1).toNat]'hj = wordOf k := by
    rw [List.getElem?_eq_getElem hj] at hw
    exact Option.some.inj hw
  have h5 : findR (wordOf k) kinds = (((k - 1).toNat : Int), true) := he ▸ this
  rw [h5, show ((k - 1).toNat : Int) = k - 1 from by omega]
theorem who_sOk {n : Int} (h : Dc.I64 n) : sOk (who n) = true ∧ sOf (who n) = n := by
  by_cases hn : n = -1
  · rw [who_yes hn]; subst hn; exact ⟨by decide, sOf_yes (by decide)⟩
  · rw [who_no hn]
    have hc : (Lib.itoa n == client) = false := by simpa using itoa_client
    refine ⟨?_, ?_⟩
    · simp [sOk, hc, Dc.parse_some h, hn]
    · rw [sOf_no hc, Dc.parse_some h]
theorem parse_back {v : Ev} (hv : EvI v) (h : (word v.kind).2 = true) : parse (line v).1 = (v, 0) := by
  obtain ⟨hs1, hs2⟩ := who_sOk hv.s
  have hf := word_findR h
  refine (parse_go (line_words h) hs2 ?_).trans ?_
  · simp [evOk, hs1, hf, Dc.parse_some hv.tick, Dc.parse_some hv.id, Dc.parse_some hv.code, Dc.parse_some hv.a, Dc.parse_some hv.b]
  · rw [hf, Dc.parse_some hv.tick, Dc.parse_some hv.id, Dc.parse_some hv.code, Dc.parse_some hv.a, Dc.parse_some hv.b]
    simp
/-- Events that may be told, of the services -1 to 2. -/
def Mays (l : List Ev) : Prop := ∀ v ∈ l, (word v.kind).2 = true ∧ -1 ≤ v.s ∧ v.s ≤ 2 ∧ EvI v
theorem mays_nil : Mays [] := fun v h => by cases h
theorem word_ok {k : Int} (h0 : 1 ≤ k) (h1 : k ≤ 15) : (word k).2 = true := by rw [word, if_pos ⟨h0, h1⟩]
theorem mays_add {l : List Ev} {e : Ev} (h : Mays l) (he : EvI e) (h0 : 1 ≤ e.kind) (h1 : e.kind ≤ 15) : Mays (l ++ [⟨e.kind, e.tick, e.s % 4 - 1, e.id, e.code, e.a, e.b⟩]) := fun v hv => by
  rcases List.mem_append.1 hv with hv | hv
  · exact h v hv
  · simp only [List.mem_singleton] at hv
    subst hv
    refine ⟨word_ok h0 h1, ?_, ?_, ⟨he.kind, he.tick, ?_, he.id, he.code, he.a, he.b⟩⟩
    · show -1 ≤ e.s % 4 - 1; omega
    · show e.s % 4 - 1 ≤ 2; omega
    · show Dc.I64 (e.s % 4 - 1)
      unfold Dc.I64; omega
theorem mays_I {l : List Ev} (h : Mays l) : EvsI l := fun v hv => (h v hv).2.2.2
theorem mays_text {l : List Ev} (h : Mays l) : text l = (textK l l.length, 0) := text_yes (k := l.length) (fun _ v _ hv => (h v (List.mem_of_getElem? hv)).1) (Nat.le_refl _)
theorem pall_back : ∀ (l : List Ev), Mays l → ∀ (i : Int) (out : List Ev), pall (l.map (fun v => (line v).1) ++ [[35]]) i out = (out ++ l, 0, 0)
  | [], _, i, out => by
    show pall [[35]] i out = _
    rw [pall, if_pos (by decide), pall, List.append_nil]
  | v :: l, h, i, out => by
    have hv := h v (by simp)
    rw [List.map_cons, List.cons_append, pall, if_neg (by rw [line_words hv.1]; simp [lineW]), parse_back hv.2.2.2 hv.1, if_pos rfl, pall_back l (fun u hu => h u (by simp [hu]))]
    simp
theorem all_back {l : List Ev} (h : Mays l) : parseAll ([32, 10] ++ (text l).1 ++ [35]) = (l, 0, 0) := by
  rw [mays_text h]
  have ht : textK l l.length = (l.map fun v => (line v).1 ++ [10]).flatten := by unfold textK; rw [List.take_of_length_le (Nat.le_refl _)]
  rw [ht, parseAll]
  rw [show [32, 10] ++ (l.map fun v => (line v).1 ++ [10]).flatten ++ [35] = [32] ++ 10 :: ((l.map fun v => (line v).1 ++ [10]).flatten ++ [35]) from rfl]
  rw [lines_cons (by intro x hx; simp only [List.mem_singleton] at hx; subst hx; rfl), lines_text l (fun v hv => (h v hv).1), pall, if_pos (by decide), pall_back l h]
  rfl
theorem pall_len : ∀ (ls : List Bs) (i : Int) (out : List Ev), (pall ls i out).1.length ≤ out.length + ls.length
  | [], i, out => by simp [pall]
  | l :: ls, i, out => by
    rw [pall]
    split
    · have := pall_len ls (i + 1) out; simp only [List.length_cons]; omega
    · split
      · have := pall_len ls (i + 1) (out ++ [(parse l).1]); simp only [List.length_append, List.length_cons, List.length_nil] at this ⊢; omega
      · simp
theorem pa_len (s : Bs) : (parseAll s).1.length ≤ s.length + 1 := by
  have h1 := pall_len (linesL s) 0 []
  have h2 := lines_len s
  unfold parseAll
  simp only [List.length_nil] at h1
  omega

/-! ### Counted apart, and together -/
def num (l : List Ev) (j : Nat) : Int := ((l.filter fun v => decide (v.kind = (j : Int))).length : Int)
theorem num_cons (v : Ev) (l : List Ev) (j : Nat) : num (v :: l) j = (if v.kind = (j : Int) then 1 else 0) + num l j := by
  unfold num
  by_cases h : v.kind = (j : Int)
  · simp [h]; omega
  · simp [h]
theorem cntFrom_at : ∀ (l : List Ev) (m : List Int) (j : Nat), j < 16 → m.length = 16 → (cntFrom m l)[j]? = (m[j]?).map (· + num l j)
  | [], m, j, _, _ => by simp [cntFrom, num]
  | v :: l, m, j, hj, hm => by
    show (cntFrom (cntF m v) l)[j]? = _
    rw [cntFrom_at l (cntF m v) j hj (by rw [cntF_len, hm]), num_cons]
    obtain ⟨x, hx⟩ : ∃ x, m[j]? = some x := ⟨_, List.getElem?_eq_getElem (by omega)⟩
    unfold cntF
    split
    · rename_i hk
      by_cases he : v.kind = (j : Int)
      · have : v.kind.toNat = j := by omega
        rw [if_pos he, this, List.getElem?_set_self (by omega), hx]
        simp; omega
      · have : v.kind.toNat ≠ j := by omega
        rw [if_neg he, List.getElem?_set_ne this, hx]
        simp
    · rename_i hk
      rw [if_neg (by omega), hx]
      simp
theorem cnt_at (l : List Ev) {j : Nat} (hj : j < 16) : (cnt l)[j]? = some (num l j) := by
  rw [cnt, cntFrom_at l zeros16 j hj rfl]
  have : zeros16[j]? = some 0 := by unfold zeros16; rw [List.getElem?_replicate, if_pos hj]
  rw [this]; simp
def sumU (l : List Ev) (c : Nat) : List Int := cnt (l.filter fun e => decide (e.s < (c : Int) - 1))
theorem num_split (l : List Ev) (c j : Nat) : num (l.filter fun e => decide (e.s < ((c + 1 : Nat) : Int) - 1)) j = num (l.filter fun e => decide (e.s < (c : Int) - 1)) j + num (Mono.of ((c : Int) - 1) l) j := by
  unfold Mono.of
  induction l with
  | nil => rfl
  | cons v l ih =>
    by_cases h1 : v.s < (c : Int) - 1
    · have h2 : v.s < ((c + 1 : Nat) : Int) - 1 := by omega
      have h3 : ¬ v.s = (c : Int) - 1 := by omega
      rw [List.filter_cons_of_pos (by simpa using h2), List.filter_cons_of_pos (by simpa using h1), List.filter_cons_of_neg (by simpa using h3), num_cons, num_cons, ih]
      omega
    · by_cases h3 : v.s = (c : Int) - 1
      · have h2 : v.s < ((c + 1 : Nat) : Int) - 1 := by omega
        rw [List.filter_cons_of_pos (by simpa using h2), List.filter_cons_of_neg (by simpa using h1), List.filter_cons_of_pos (by simpa using h3), num_cons, num_cons, ih]
        omega
      · have h2 : ¬ v.s < ((c + 1 : Nat) : Int) - 1 := by omega
        rw [List.filter_cons_of_neg (by simpa using h2), List.filter_cons_of_neg (by simpa using h1), List.filter_cons_of_neg (by simpa using h3), ih]
theorem sumU_len (l : List Ev) (c : Nat) : (sumU l c).length = 16 := cnt_len _
theorem sumU_zero {l : List Ev} (h : Mays l) : sumU l 0 = List.replicate 16 0 := by
  have : l.filter (fun e => decide (e.s < ((0 : Nat) : Int) - 1)) = [] := by
    rw [List.filter_eq_nil_iff]
    intro v hv
    have := (h v hv).2.1
    simp; omega
  unfold sumU
  rw [this]; rfl
theorem sumU_all {l : List Ev} {c : Nat} (h : Mays l) (hc : 4 ≤ c) : sumU l c = cnt l := by
  have : l.filter (fun e => decide (e.s < (c : Int) - 1)) = l := by
    rw [List.filter_eq_self]
    intro v hv
    have := (h v hv).2.2.1
    simp; omega
  unfold sumU
  rw [this]
/-- The first i added. -/
def mix (m c : List Int) (i : Nat) : List Int := (List.range 16).map fun t => if t < i then (m[t]?).getD 0 + (c[t]?).getD 0 else (m[t]?).getD 0
theorem mix_len (m c : List Int) (i : Nat) : (mix m c i).length = 16 := by simp [mix]
theorem mix_at {m c : List Int} {i t : Nat} (ht : t < 16) : (mix m c i)[t]? = some (if t < i then (m[t]?).getD 0 + (c[t]?).getD 0 else (m[t]?).getD 0) := by
  unfold mix
  rw [List.getElem?_map, List.getElem?_range ht]; rfl
theorem mix_zero {m c : List Int} (hm : m.length = 16) : mix m c 0 = m := by
  apply List.ext_getElem?
  intro t
  by_cases ht : t < 16
  · rw [mix_at ht, if_neg (by omega), List.getElem?_eq_getElem (by omega)]; rfl
  · rw [List.getElem?_eq_none (by rw [mix_len]; omega), List.getElem?_eq_none (by omega)]
theorem mix_next {m c : List Int} {i : Nat} {x y : Int} (hi : i < 16) (hx : (mix m c i)[i]? = some x) (hy : c[i]? = some y) : (mix m c i).set i (x + y) = mix m c (i + 1) := by
  rw [mix_at hi, if_neg (Nat.lt_irrefl _)] at hx
  have hx' := Option.some.inj hx
  apply List.ext_getElem?
  intro t
  by_cases ht : t < 16
  · by_cases he : t = i
    · subst he
      rw [List.getElem?_set_self (by rw [mix_len]; exact hi), mix_at ht, if_pos (by omega), hx', hy]; rfl
    · rw [List.getElem?_set_ne (Ne.symm he), mix_at ht, mix_at ht]
      by_cases hlt : t < i
      · rw [if_pos hlt, if_pos (by omega)]
      · rw [if_neg hlt, if_neg (by omega)]
  · rw [List.getElem?_eq_none (by rw [List.length_set, mix_len]; omega), List.getElem?_eq_none (by rw [mix_len]; omega)]
theorem mix_all {l : List Ev} {c i : Nat} (hi : 16 ≤ i) : mix (sumU l c) (cnt (Mono.of ((c : Int) - 1) l)) i = sumU l (c + 1) := by
  apply List.ext_getElem?
  intro t
  by_cases ht : t < 16
  · rw [mix_at ht, if_pos (by omega)]
    unfold sumU
    rw [cnt_at _ ht, cnt_at _ ht, cnt_at _ ht, num_split]; rfl
  · rw [List.getElem?_eq_none (by rw [mix_len]; omega), List.getElem?_eq_none (by rw [sumU_len]; omega)]
theorem num_le (l : List Ev) (j : Nat) : 0 ≤ num l j ∧ num l j ≤ l.length := by
  have := List.length_filter_le (fun v : Ev => decide (v.kind = (j : Int))) l
  unfold num; omega
theorem mix_le {l : List Ev} {c i : Nat} {d : List Int} {x : Int} (hi : i < 16) (hx : (mix (sumU l c) d i)[i]? = some x) : 0 ≤ x ∧ x ≤ l.length := by
  rw [mix_at hi, if_neg (Nat.lt_irrefl _)] at hx
  have hx' := Option.some.inj hx
  unfold sumU at hx'
  rw [cnt_at _ hi] at hx'
  have h1 := num_le (l.filter fun e => decide (e.s < (c : Int) - 1)) i
  have h2 := List.length_filter_le (fun e : Ev => decide (e.s < (c : Int) - 1)) l
  simp only [Option.getD_some] at hx'
  omega
theorem cnt_le2 {l : List Ev} {n : Int} {i : Nat} {y : Int} (hi : i < 16) (hy : (cnt (Mono.of n l))[i]? = some y) : 0 ≤ y ∧ y ≤ l.length := by
  rw [cnt_at _ hi] at hy
  have h1 := num_le (Mono.of n l) i
  have h2 : (Mono.of n l).length ≤ l.length := List.length_filter_le _ l
  have := Option.some.inj hy
  omega

/-! ### What must come -/
def awEv : Ev := ⟨4, 3, 0, 5, 2, 4, 0⟩
def awLine : Bs := [97, 116, 32, 51, 32, 101, 110, 100, 32, 48, 32, 53, 32, 50, 32, 52, 32, 48]
theorem it (u : Nat) (h : u < 10) : Lib.itoa (u : Int) = [UInt8.ofNat (48 + u)] := Kn.it1 u h
theorem aw_EvI : EvI awEv := by
  constructor <;> (unfold Dc.I64; decide)
theorem aw_line : line awEv = (awLine, 0) := by
  rw [line_at (v := awEv) (e := [101, 110, 100]) rfl]
  have h3 : Lib.itoa 3 = [51] := it 3 (by decide)
  have h5 : Lib.itoa 5 = [53] := it 5 (by decide)
  have h2 : Lib.itoa 2 = [50] := it 2 (by decide)
  have h4 : Lib.itoa 4 = [52] := it 4 (by decide)
  have h0 : Lib.itoa 0 = [48] := it 0 (by decide)
  have hw : who 0 = [48] := (who_no (by decide)).trans h0
  show (Lib.join [atW, Lib.itoa 3, [101, 110, 100], who 0, Lib.itoa 5, Lib.itoa 2, Lib.itoa 4, Lib.itoa 0] [32], (0 : Int)) = _
  rw [h3, h5, h2, h4, h0, hw]
  decide
theorem aw_words : wordsL [32, 32, 97, 116, 32, 51, 32, 101, 110, 100, 32, 48, 32, 53, 32, 50, 32, 52, 32, 48, 32, 35, 32, 120] = wordsL awLine := by decide
theorem aw_parse : parse [32, 32, 97, 116, 32, 51, 32, 101, 110, 100, 32, 48, 32, 53, 32, 50, 32, 52, 32, 48, 32, 35, 32, 120] = (awEv, 0) := by
  have := parse_back aw_EvI (v := awEv) (by rfl)
  rw [aw_line] at this
  rw [parse, aw_words]
  exact this
theorem aw_few : parse [97, 116, 32, 51, 32, 101, 110, 100, 32, 48, 32, 53, 32, 50, 32, 52] = (noEv, 2) := parse_few (by decide)
end Go.LK.Tc
