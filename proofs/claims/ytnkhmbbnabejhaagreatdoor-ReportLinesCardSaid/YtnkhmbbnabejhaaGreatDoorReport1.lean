/-
  The plain law of reports' lines.
-/
import Derived.Test.YtnkhmbbnabejhaaGreatDoorConfA
import Derived.Test.YtnkhmbbnabejhaaGreatDoorReport0
namespace Go.LK.Rp
open Go Go.LK Go.LK.Wd
abbrev repW : Bs := [114, 101, 112, 111, 114, 116]
theorem names_word : ∀ w ∈ names, ∀ x ∈ w, bl x = false ∧ ¬ (x.toNat : Int) = 35 := by decide
theorem rep_word : ∀ x ∈ repW, bl x = false ∧ ¬ (x.toNat : Int) = 35 := by decide
def ofL (l : List Int) : Rep := ⟨l.getD 0 0, l.getD 1 0, l.getD 2 0, l.getD 3 0, l.getD 4 0, l.getD 5 0, l.getD 6 0, l.getD 7 0, l.getD 8 0, l.getD 9 0, l.getD 10 0, l.getD 11 0⟩
def line (r : Rep) : Bs := Cf.row repW names (nums r)
def parse (line : Bs) : Rep × Int := if (Cf.numbers line repW names).2 = true then (ofL (Cf.numbers line repW names).1, 0) else (zero, 2)
theorem parse_yes {line : Bs} (h : (Cf.numbers line repW names).2 = true) : parse line = (ofL (Cf.numbers line repW names).1, 0) := if_pos h
theorem parse_no {line : Bs} (h : ¬ (Cf.numbers line repW names).2 = true) : parse line = (zero, 2) := if_neg h
theorem parse_no' {line : Bs} (h : (Cf.numbers line repW names).2 = false) : parse line = (zero, 2) := parse_no (by rw [h]; simp)
theorem ex12 {l : List Int} (hl : l.length = 12) : ∃ x0 x1 x2 x3 x4 x5 x6 x7 x8 x9 x10 x11, l = [x0, x1, x2, x3, x4, x5, x6, x7, x8, x9, x10, x11] := by
  match l, hl with
  | [x0, x1, x2, x3, x4, x5, x6, x7, x8, x9, x10, x11], _ => exact ⟨x0, x1, x2, x3, x4, x5, x6, x7, x8, x9, x10, x11, rfl⟩
theorem parse_back {r : Rep} (hI : Kn.I64s (nums r)) : parse (line r) = (r, 0) := by
  have h := Cf.numbers_back (word := repW) (ns := names) (l := nums r) rfl hI (by decide) rep_word names_word
  rw [parse_yes (by rw [line, h]), line, h]; rfl
theorem line_len {r : Rep} (hI : Kn.I64s (nums r)) : (line r).length ≤ 400 := by
  have h := Wd.join_le (Cf.rowW repW names (nums r)) 29 (Cf.rowW_le (b := 7) (by decide) names_le hI)
  rw [Cf.rowW_len, show min names.length (nums r).length = 12 from rfl] at h
  exact Nat.le_trans h (by decide)
theorem keep_max (a b : Int) : (if keep b 2147483647 > keep a 2147483647 then keep b 2147483647 else keep a 2147483647) = keep (if b > a then b else a) 2147483647 := by
  unfold keep; (repeat' split) <;> omega
/-- Two reports together. -/
def plus (a b : Rep) : Rep := ⟨addC a.d0 b.d0, addC a.d1 b.d1, addC a.d2 b.d2, addC a.d3 b.d3, addC a.d4 b.d4, addC a.d5 b.d5, addC a.d6 b.d6, addC a.d7 b.d7, addC a.d8 b.d8, addC a.d9 b.d9, keep (if b.d10 > a.d10 then b.d10 else a.d10) 2147483647, share (addC a.d4 b.d4) (addC a.d0 b.d0)⟩
def awR : Rep := ⟨4, 4, 0, 4, 3, 0, 0, 0, 0, 0, 2, 75⟩
theorem aw_I : Kn.I64s (nums awR) := by
  intro x hx
  simp only [nums, awR, List.mem_cons, List.not_mem_nil, or_false] at hx
  unfold Dc.I64
  omega
end Go.LK.Rp
