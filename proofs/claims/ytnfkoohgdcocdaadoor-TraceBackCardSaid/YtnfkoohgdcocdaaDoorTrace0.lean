/-
  The plain law of events as texts: lines, and back.
-/
import Derived.Test.YtnfkoohgdcocdaaDoorKnob0
import Derived.Test.YtnfkoohgdcocdaaDoorMono0
namespace Go.LK.Tc
open Go Go.LK Go.LK.Wd
def kinds : List Bs := [[99, 97, 109, 101], [116, 119, 105, 99, 101], [115, 116, 97, 114, 116], [101, 110, 100], [99, 97, 108, 108], [115, 107, 105, 112], [104, 101, 97, 114, 100], [108, 101, 97, 114, 110], [99, 108, 111, 115, 101], [112, 117, 115, 104], [114, 101, 115, 116, 97, 114, 116], [101, 114, 97, 115, 101], [97, 115, 107], [97, 110, 115, 119, 101, 114], [108, 111, 115, 116]]
theorem kinds_word : ∀ w ∈ kinds, Word w := by
  intro w hw
  have h : ∀ w ∈ kinds, w ≠ [] ∧ ∀ x ∈ w, bl x = false ∧ ¬ (x.toNat : Int) = 35 := by decide
  exact h w hw
theorem kinds_len : ∀ w ∈ kinds, w.length ≤ 7 := by decide
def client : Bs := [99, 108, 105, 101, 110, 116]
def atW : Bs := [97, 116]
def who (n : Int) : Bs := if n = -1 then client else Lib.itoa n
theorem who_yes {n : Int} (h : n = -1) : who n = client := if_pos h
theorem who_no {n : Int} (h : ¬ n = -1) : who n = Lib.itoa n := if_neg h
theorem client_word : Word client := by
  have h : client ≠ [] ∧ ∀ x ∈ client, bl x = false ∧ ¬ (x.toNat : Int) = 35 := by decide
  exact h
theorem at_word : Word atW := by
  have h : atW ≠ [] ∧ ∀ x ∈ atW, bl x = false ∧ ¬ (x.toNat : Int) = 35 := by decide
  exact h
theorem who_word (n : Int) : Word (who n) := by
  unfold who; split
  · exact client_word
  · exact itoa_word n
theorem itoa_client {n : Int} : Lib.itoa n ≠ client := fun h => by
  have := itoa_byte (n := n) 99 (by rw [h]; decide)
  unfold Dc.isD at this
  revert this; decide
theorem itoa_le' {n : Int} (h : Dc.I64 n) : (Lib.itoa n).length ≤ 21 := Lib.itoa_length_le n h.1 h.2
theorem who_len {n : Int} (h : Dc.I64 n) : (who n).length ≤ 21 := by
  unfold who; split
  · decide
  · exact Lib.itoa_length_le n h.1 h.2
theorem who_inj {m n : Int} (hm : Dc.I64 m) (hn : Dc.I64 n) (h : who m = who n) : m = n := by
  unfold who at h
  split at h <;> split at h
  · omega
  · exact absurd h.symm itoa_client
  · exact absurd h itoa_client
  · exact Dc.itoa_inj hm hn h

/-- All of an event's numbers are numbers. -/
structure EvI (v : Ev) : Prop where
  kind : Dc.I64 v.kind
  tick : Dc.I64 v.tick
  s : Dc.I64 v.s
  id : Dc.I64 v.id
  code : Dc.I64 v.code
  a : Dc.I64 v.a
  b : Dc.I64 v.b
def lineW (v : Ev) (w : Bs) : List Bs := [atW, Lib.itoa v.tick, w, who v.s, Lib.itoa v.id, Lib.itoa v.code, Lib.itoa v.a, Lib.itoa v.b]
def wordOf (k : Int) : Bs := (kinds[(k - 1).toNat]?).getD []
def word (k : Int) : Bs × Bool := if 1 ≤ k ∧ k ≤ 15 then (wordOf k, true) else ([], false)
theorem word_no {k : Int} (h : k < 1 ∨ 15 < k) : word k = ([], false) := if_neg (by omega)
theorem word_yes {k : Int} {w : Bs} (h0 : 1 ≤ k) (h1 : k ≤ 15) (hw : kinds[(k - 1).toNat]? = some w) : word k = (w, true) := by rw [word, if_pos ⟨h0, h1⟩, wordOf, hw]; rfl
theorem word_some {k : Int} (h0 : 1 ≤ k) (h1 : k ≤ 15) : kinds[(k - 1).toNat]? = some (wordOf k) := by
  unfold wordOf
  have : (k - 1).toNat < kinds.length := by show _ < 15; omega
  rw [List.getElem?_eq_getElem this]; rfl
def line (v : Ev) : Bs × Int := if (word v.kind).2 then (Lib.join (lineW v (word v.kind).1) [32], 0) else ([], 1)
theorem line_no {v : Ev} (h : (word v.kind).2 = false) : line v = ([], 1) := by rw [line, h]; rfl
theorem line_yes {v : Ev} (h : (word v.kind).2 = true) : line v = (Lib.join (lineW v (word v.kind).1) [32], 0) := by rw [line, h]; rfl
theorem word_is {k : Int} (h : (word k).2 = true) : 1 ≤ k ∧ k ≤ 15 ∧ (word k).1 ∈ kinds ∧ (word k).1 = wordOf k := by
  unfold word at h ⊢
  split at h
  · rename_i h1
    rw [if_pos h1]
    exact ⟨h1.1, h1.2, List.mem_of_getElem? (word_some h1.1 h1.2), rfl⟩
  · cases h
theorem lineW_word {v : Ev} {w : Bs} (hw : Word w) : ∀ x ∈ lineW v w, Word x := by
  intro x hx
  simp only [lineW, List.mem_cons, List.not_mem_nil, or_false] at hx
  rcases hx with rfl | rfl | rfl | rfl | rfl | rfl | rfl | rfl
  · exact at_word
  · exact itoa_word _
  · exact hw
  · exact who_word _
  all_goals exact itoa_word _
theorem lineW_le {v : Ev} {w : Bs} (hv : EvI v) (hw : w.length ≤ 21) : ∀ x ∈ lineW v w, x.length ≤ 21 := by
  intro x hx
  simp only [lineW, List.mem_cons, List.not_mem_nil, or_false] at hx
  rcases hx with rfl | rfl | rfl | rfl | rfl | rfl | rfl | rfl
  · decide
  · exact itoa_le' hv.tick
  · exact hw
  · exact who_len hv.s
  · exact itoa_le' hv.id
  · exact itoa_le' hv.code
  · exact itoa_le' hv.a
  · exact itoa_le' hv.b
theorem line_len {v : Ev} (hv : EvI v) : (line v).1.length ≤ 176 := by
  cases h : (word v.kind).2
  · rw [line_no h]; simp
  · rw [line_yes h]
    have := join_le _ 21 (lineW_le hv (by have := kinds_len _ (word_is h).2.2.1; omega : (word v.kind).1.length ≤ 21))
    simpa [lineW] using this
theorem line_words {v : Ev} (h : (word v.kind).2 = true) : wordsL (line v).1 = lineW v (word v.kind).1 := by
  rw [line_yes h]
  exact words_join (by simp [lineW]) (lineW_word (kinds_word _ (word_is h).2.2.1))

/-! ### The event of a line -/
def evOf : List Bs → Ev
  | [_, w1, w2, w3, w4, w5, w6, w7] => ⟨(findR w2 kinds).1 + 1, (Dc.parse w1).1, if w3 = client then -1 else (Dc.parse w3).1, (Dc.parse w4).1, (Dc.parse w5).1, (Dc.parse w6).1, (Dc.parse w7).1⟩
  | _ => ⟨0, 0, 0, 0, 0, 0, 0⟩
def sOk (w : Bs) : Bool := w == client || (decide ((Dc.parse w).2 = 0) && !decide ((Dc.parse w).1 = -1))
def evOk : List Bs → Bool
  | [w0, w1, w2, w3, w4, w5, w6, w7] => w0 == atW && decide ((Dc.parse w1).2 = 0) && (findR w2 kinds).2 && sOk w3 && decide ((Dc.parse w4).2 = 0) && decide ((Dc.parse w5).2 = 0) && decide ((Dc.parse w6).2 = 0) && decide ((Dc.parse w7).2 = 0)
  | _ => false
def noEv : Ev := ⟨0, 0, 0, 0, 0, 0, 0⟩
def parseW (ws : List Bs) : Ev × Int := if evOk ws then (evOf ws, 0) else (noEv, 2)
def parse (s : Bs) : Ev × Int := parseW (wordsL s)
theorem evOk_len {ws : List Bs} (h : evOk ws = true) : ws.length = 8 := by
  unfold evOk at h
  split at h
  · rfl
  · cases h
theorem parse_few {s : Bs} (h : ¬ (wordsL s).length = 8) : parse s = (noEv, 2) := by
  unfold parse parseW
  rw [if_neg]
  intro hc
  exact h (evOk_len hc)
theorem parse_okI {s : Bs} : (Dc.parse s).2 = 0 ↔ ∃ n, Dc.I64 n ∧ s = Lib.itoa n ∧ Dc.parse s = (n, 0) := by
  rcases Dc.parse_cases s with ⟨n, h1, h2, h3⟩ | ⟨h1, _⟩
  · exact ⟨fun _ => ⟨n, h1, h2, h3⟩, fun _ => by rw [h3]⟩
  · constructor
    · intro h; rw [h1] at h; cases h
    · rintro ⟨n, h2, h3, h4⟩; rw [h4]
theorem parse_I (s : Bs) : Dc.I64 (Dc.parse s).1 := by
  rcases Dc.parse_cases s with ⟨n, h1, h2, h3⟩ | ⟨h1, _⟩
  · rw [h3]; exact h1
  · rw [h1]; exact ⟨by decide, by decide⟩
theorem itoa_parse {s : Bs} : Lib.itoa (Dc.parse s).1 = s ↔ (Dc.parse s).2 = 0 := by
  constructor
  · intro h
    have := Dc.parse_some (parse_I s)
    rw [h] at this
    rw [this]
  · intro h
    obtain ⟨n, _, h2, h3⟩ := parse_okI.1 h
    rw [h3]; exact h2.symm
theorem who_parse {w : Bs} : who (if w = client then -1 else (Dc.parse w).1) = w ↔ sOk w = true := by
  unfold sOk
  by_cases hc : w = client
  · simp [hc, who]
  · have h1 : (w == client) = false := by simpa using hc
    rw [if_neg hc, h1, Bool.false_or, Bool.and_eq_true, decide_eq_true_eq, Bool.not_eq_true', decide_eq_false_iff_not]
    by_cases h2 : (Dc.parse w).1 = -1
    · rw [who_yes h2]
      constructor
      · intro h; exact absurd h.symm hc
      · intro h; exact absurd h2 h.2
    · rw [who_no h2, itoa_parse]
      exact ⟨fun h => ⟨h, h2⟩, fun h => h.1⟩

/-- The document's event of a line: the one whose line it is. -/
def kindR (w : Bs) : Int := (findR w ([] :: kinds)).1
theorem kindR_yes {w : Bs} (hw : w ≠ []) (h : (findR w kinds).2 = true) : kindR w = (findR w kinds).1 + 1 := by
  unfold kindR findR at *
  cases hf : findL w kinds with
  | none => rw [hf] at h; simp at h
  | some k => simp [findL, Ne.symm hw, hf]
theorem kindR_no {w : Bs} (hw : w ≠ []) (h : (findR w kinds).2 = false) : kindR w = 0 := by
  unfold kindR findR at *
  cases hf : findL w kinds with
  | none => simp [findL, Ne.symm hw, hf]
  | some k => rw [hf] at h; simp at h
def refEv : List Bs → Ev
  | [_, w1, w2, w3, w4, w5, w6, w7] => ⟨kindR w2, (Dc.parse w1).1, if w3 = client then -1 else (Dc.parse w3).1, (Dc.parse w4).1, (Dc.parse w5).1, (Dc.parse w6).1, (Dc.parse w7).1⟩
  | _ => noEv
theorem word_find {w : Bs} (h : (findR w kinds).2 = true) : word ((findR w kinds).1 + 1) = (w, true) := by
  obtain ⟨k, h1, h2, h3⟩ := findR_in h
  rw [h1]
  have h4 : kinds.length = 15 := rfl
  exact word_yes (by simp only []; omega) (by simp only []; omega) (by simp only [Int.add_sub_cancel, Int.toNat_natCast]; exact h2)
theorem word_zero : word 0 = ([], false) := rfl
theorem ref_same {ws : List Bs} (h8 : ws.length = 8) (hw : ∀ w ∈ ws, Word w) : (evOk ws = true ↔ (line (refEv ws)).2 = 0 ∧ (line (refEv ws)).1 = Lib.join ws [32]) ∧ (evOk ws = true → refEv ws = evOf ws) := by
  match ws, h8, hw with
  | [w0, w1, w2, w3, w4, w5, w6, w7], _, hw =>
    have hw2 : w2 ≠ [] := (hw w2 (by simp)).1
    cases hf : (findR w2 kinds).2 with
    | false =>
      have h1 : (word (refEv [w0, w1, w2, w3, w4, w5, w6, w7]).kind).2 = false := by
        show (word (kindR w2)).2 = false
        rw [kindR_no hw2 hf, word_zero]
      have h2 : evOk [w0, w1, w2, w3, w4, w5, w6, w7] = false := by simp [evOk, hf]
      rw [line_no h1, h2]
      exact ⟨⟨fun h => (by cases h), fun h => (by cases h.1)⟩, fun h => (by cases h)⟩
    | true =>
      have hk := kindR_yes hw2 hf
      have hwd := word_find hf
      have heq : refEv [w0, w1, w2, w3, w4, w5, w6, w7] = evOf [w0, w1, w2, w3, w4, w5, w6, w7] := by
        show Ev.mk (kindR w2) _ _ _ _ _ _ = Ev.mk ((findR w2 kinds).1 + 1) _ _ _ _ _ _
        rw [hk]
      refine ⟨?_, fun _ => heq⟩
      rw [heq]
      have hkd : (evOf [w0, w1, w2, w3, w4, w5, w6, w7]).kind = (findR w2 kinds).1 + 1 := rfl
      rw [line_yes (by rw [hkd, hwd]), hkd, hwd]
      constructor
      · intro h
        simp only [evOk, Bool.and_eq_true, decide_eq_true_eq, beq_iff_eq] at h
        obtain ⟨⟨⟨⟨⟨⟨⟨h0, h1⟩, _⟩, h3⟩, h4⟩, h5⟩, h6⟩, h7⟩ := h
        refine ⟨rfl, congrArg (Lib.join · [32]) ?_⟩
        show [atW, Lib.itoa (Dc.parse w1).1, w2, who (if w3 = client then -1 else (Dc.parse w3).1), Lib.itoa (Dc.parse w4).1, Lib.itoa (Dc.parse w5).1, Lib.itoa (Dc.parse w6).1, Lib.itoa (Dc.parse w7).1] = _
        rw [itoa_parse.2 h1, itoa_parse.2 h4, itoa_parse.2 h5, itoa_parse.2 h6, itoa_parse.2 h7, who_parse.2 h3, h0]
      · rintro ⟨_, h⟩
        have h' := congrArg wordsL h
        rw [words_join (by simp [lineW]) (lineW_word (hw w2 (by simp))), words_join (by simp) hw] at h'
        have h2 : [atW, Lib.itoa (Dc.parse w1).1, w2, who (if w3 = client then -1 else (Dc.parse w3).1), Lib.itoa (Dc.parse w4).1, Lib.itoa (Dc.parse w5).1, Lib.itoa (Dc.parse w6).1, Lib.itoa (Dc.parse w7).1] = [w0, w1, w2, w3, w4, w5, w6, w7] := h'
        simp only [List.cons.injEq, and_true, true_and] at h2
        obtain ⟨g0, g1, g3, g4, g5, g6, g7⟩ := h2
        simp only [evOk, Bool.and_eq_true, decide_eq_true_eq, beq_iff_eq]
        exact ⟨⟨⟨⟨⟨⟨⟨g0.symm, itoa_parse.1 g1⟩, hf⟩, who_parse.1 g3⟩, itoa_parse.1 g4⟩, itoa_parse.1 g5⟩, itoa_parse.1 g6⟩, itoa_parse.1 g7⟩
end Go.LK.Tc
