/-
  The plain law of reports: what came to pass, counted.
-/
import Derived.Test.YtnkhmbbnabejhaaGreatDoorLedgerA
namespace Go.LK
open Go
structure Rep where
  d0 : Int
  d1 : Int
  d2 : Int
  d3 : Int
  d4 : Int
  d5 : Int
  d6 : Int
  d7 : Int
  d8 : Int
  d9 : Int
  d10 : Int
  d11 : Int
def Rep.cells (e : Rep) : List Value := [.int .i64 e.d0, .int .i64 e.d1, .int .i64 e.d2, .int .i64 e.d3, .int .i64 e.d4, .int .i64 e.d5, .int .i64 e.d6, .int .i64 e.d7, .int .i64 e.d8, .int .i64 e.d9, .int .i64 e.d10, .int .i64 e.d11]
theorem Rep.one {l : List Rep} : ∀ a ∈ l, (Rep.cells a).all Value.oneCell' = true := fun _ _ => rfl
end Go.LK
namespace Go.LK.Rp
open Go Go.LK
def zero : Rep := ⟨0, 0, 0, 0, 0, 0, 0, 0, 0, 0, 0, 0⟩
def nums (r : Rep) : List Int := [r.d0, r.d1, r.d2, r.d3, r.d4, r.d5, r.d6, r.d7, r.d8, r.d9, r.d10, r.d11]
def inc : Bool → Int → Int
  | true, n => IntKind.i64.wrap (n + 1)
  | false, n => n
def cnt (r : Rep) (v : Ev) : Rep :=
  ⟨inc (decide (v.kind = 1)) r.d0, inc (decide (v.kind = 1) && decide (v.code = 0)) r.d1, inc (decide (v.kind = 1) && decide (v.code = 2)) r.d2,
   inc (decide (v.kind = 3)) r.d3, inc (decide (v.kind = 4) && decide (v.code = 1)) r.d4, inc (decide (v.kind = 4) && decide (v.code ≠ 1)) r.d5,
   inc (decide (v.kind = 12)) r.d6, inc (decide (v.kind = 5)) r.d7, inc (decide (v.kind = 6)) r.d8, inc (decide (v.kind = 9)) r.d9,
   if v.kind = 3 then (if r.d10 < v.a then v.a else r.d10) else r.d10, r.d11⟩
def cntK (s : Int) (l : List Ev) (k : Nat) : Rep := ((l.take k).filter fun e => decide (e.s = s)).foldl cnt zero
theorem cntK_yes {s : Int} {l : List Ev} {k : Nat} {v : Ev} (hv : l[k]? = some v) (hs : v.s = s) : cntK s l (k + 1) = cnt (cntK s l k) v := by
  unfold cntK; rw [List.take_add_one, hv, List.filter_append, List.foldl_append]; simp [hs]
theorem cntK_no {s : Int} {l : List Ev} {k : Nat} {v : Ev} (hv : l[k]? = some v) (hs : ¬ v.s = s) : cntK s l (k + 1) = cntK s l k := by
  unfold cntK; rw [List.take_add_one, hv, List.filter_append, List.foldl_append]; simp [hs]
def keep (n most : Int) : Int := if 0 > (if most < n then most else n) then 0 else (if most < n then most else n)
theorem keep_bnd (n : Int) {most : Int} (h : 0 ≤ most) : 0 ≤ keep n most ∧ keep n most ≤ most := by
  unfold keep; split <;> split <;> omega
theorem keep_of {n most : Int} (h1 : 0 ≤ n) (h2 : n ≤ most) : keep n most = n := by
  unfold keep; split <;> split <;> omega
def addC (a b : Int) : Int := keep (keep a 2147483647 + keep b 2147483647) 2147483647
def mulC (a b : Int) : Int := keep (IntKind.i64.wrap (keep a 2147483647 * keep b 2147483647)) 2147483647
theorem mulC_bnd (a b : Int) : 0 ≤ mulC a b ∧ mulC a b ≤ 2147483647 := keep_bnd _ (by decide)
def sumC (l : List Int) : Int := l.foldl addC 0
def share (good decided : Int) : Int := if decided < 1 then 0 else mulC good 100 / decided
theorem share_no {g d : Int} (h : d < 1) : share g d = 0 := if_pos h
theorem share_yes {g d : Int} (h : ¬ d < 1) : share g d = mulC g 100 / d := if_neg h
def shared (r : Rep) : Rep := { r with d11 := share r.d4 r.d0 }
def counted (s : Int) (l : List Ev) : Rep := shared (cntK s l l.length)
/-- The same, of the filtered row. -/
def cntF (f : List Ev) (k : Nat) : Rep := (f.take k).foldl cnt zero
theorem cntF_next {f : List Ev} {k : Nat} {v : Ev} (hv : f[k]? = some v) : cntF f (k + 1) = cnt (cntF f k) v := by
  unfold cntF; rw [List.take_add_one, hv, List.foldl_append]; rfl
theorem cntF_all {s : Int} {l : List Ev} {k : Nat} (hk : (Mono.of s l).length ≤ k) : shared (cntF (Mono.of s l) k) = counted s l := by
  unfold cntF counted cntK
  rw [List.take_of_length_le hk, List.take_length]; rfl
def of (s : Int) (l : List Ev) : Rep × Int × Int := if (Ld.read l).2.2 = 0 then (counted s l, 0, 0) else (zero, (Ld.read l).2.1, (Ld.read l).2.2)
theorem of_yes {s : Int} {l : List Ev} (h : (Ld.read l).2.2 = 0) : of s l = (counted s l, 0, 0) := if_pos h
theorem of_no {s : Int} {l : List Ev} (h : ¬ (Ld.read l).2.2 = 0) : of s l = (zero, (Ld.read l).2.1, (Ld.read l).2.2) := if_neg h
/-! ### By levels -/
def mine (s n : Int) (x : Ft) : Bool := decide (x.s = s) && decide (0 ≤ x.level) && decide (x.level < n)
section
variable {s n : Int} {a : List Int} {k : Nat} {x : Ft}
end
def names : List (List UInt8) := [[100, 101, 99, 105, 100, 101, 100], [112, 97, 115, 115, 101, 100], [114, 101, 102, 117, 115, 101, 100], [115, 116, 97, 114, 116, 101, 100], [103, 111, 111, 100], [98, 97, 100], [101, 114, 97, 115, 101, 100], [99, 97, 108, 108, 115], [115, 107, 105, 112, 115], [119, 105, 110, 100, 111, 119, 115], [119, 111, 114, 115, 116], [115, 104, 97, 114, 101]]
theorem names_len : names.length = 12 := rfl
theorem names_le : ∀ w ∈ names, w.length ≤ 7 := by decide
/-- May a report be? -/
def right (r : Rep) : Bool :=
  (nums r).all (fun n => decide (0 ≤ n)) && (decide (addC r.d1 r.d2 ≤ r.d0) && decide (sumC [r.d4, r.d5, r.d6] ≤ r.d0)) && decide (r.d3 ≤ r.d1) && decide (r.d4 ≤ r.d3) && decide (r.d11 = share r.d4 r.d0)
theorem all_next {l : List Int} {k : Nat} {n : Int} (h : ((l.take k).all fun n => decide (0 ≤ n)) = true) (hn : l[k]? = some n) (h0 : decide (0 ≤ n) = true) : ((l.take (k + 1)).all fun n => decide (0 ≤ n)) = true := by
  rw [List.take_add_one, hn, List.all_append, h]; simpa using h0
theorem right_neg {r : Rep} {k : Nat} {n : Int} (hn : (nums r)[k]? = some n) (h : n < 0) : right r = false := by
  have : ((nums r).all fun n => decide (0 ≤ n)) = false := by
    cases h2 : ((nums r).all fun n => decide (0 ≤ n)) with
    | false => rfl
    | true =>
      have := List.all_eq_true.1 h2 n (List.mem_of_getElem? hn)
      simp at this; omega
  unfold right; rw [this]; rfl
theorem right_all {r : Rep} (h : ((nums r).all fun n => decide (0 ≤ n)) = true) : right r = ((decide (addC r.d1 r.d2 ≤ r.d0) && decide (sumC [r.d4, r.d5, r.d6] ≤ r.d0)) && decide (r.d3 ≤ r.d1) && decide (r.d4 ≤ r.d3) && decide (r.d11 = share r.d4 r.d0)) := by
  unfold right; rw [h, Bool.true_and]
def awL (k : Nat) : List Ev := (List.range k).flatMap fun i => [⟨1, 0, 0, i, 0, i, 0⟩, ⟨3, 0, 0, i, 0, 2, 0⟩] ++ (if 0 < i then [⟨4, 0, 0, i, 1, 0, 0⟩] else [])
theorem awL_yes {k : Nat} (h : 0 < k) : awL (k + 1) = awL k ++ [⟨1, 0, 0, k, 0, k, 0⟩, ⟨3, 0, 0, k, 0, 2, 0⟩] ++ [⟨4, 0, 0, k, 1, 0, 0⟩] := by
  unfold awL; rw [List.range_succ, List.flatMap_append]; simp [h]
theorem awL_no {k : Nat} (h : ¬ 0 < k) : awL (k + 1) = awL k ++ [⟨1, 0, 0, k, 0, k, 0⟩, ⟨3, 0, 0, k, 0, 2, 0⟩] := by
  unfold awL; rw [List.range_succ, List.flatMap_append]; simp [h]
end Go.LK.Rp
