/-
  Events, runs: what the functions of the layers mono and trace compute, as plain functions on lists.
-/
import Derived.Test.YtnkhmbbnabejhaaLk7
namespace Go.LK
open Go

structure Ev where
  kind : Int
  tick : Int
  s : Int
  id : Int
  code : Int
  a : Int
  b : Int
def Ev.cells (e : Ev) : List Value := [.int .i64 e.kind, .int .i64 e.tick, .int .i64 e.s, .int .i64 e.id, .int .i64 e.code, .int .i64 e.a, .int .i64 e.b]
theorem Ev.one {l : List Ev} : ∀ a ∈ l, (Ev.cells a).all Value.oneCell' = true := fun _ _ => rfl

structure Run where
  frm : Int
  to : Int
  pass : Int
  stop : Int
def Run.cells (e : Run) : List Value := [.int .i64 e.frm, .int .i64 e.to, .int .i64 e.pass, .int .i64 e.stop]
theorem Run.one {l : List Run} : ∀ a ∈ l, (Run.cells a).all Value.oneCell' = true := fun _ _ => rfl

namespace Mono
def dec (e : Ev) : Bool := decide (e.kind = 1) && (decide (e.code = 0) || decide (e.code = 2))
def ends (e : Ev) : Bool := decide (e.kind = 9) || decide (e.kind = 11) || decide (e.kind = 10)

def put (r : Run) (at_ : Int) (e : Ev) : Run :=
  if e.code = 0 then { r with to := at_, pass := if e.a > r.pass then e.a else r.pass } else { r with to := at_, stop := if e.a < r.stop then e.a else r.stop }
def opened (out : List Run) (begun : Bool) (at_ : Int) : List Run := if begun then out else out ++ [⟨at_, 0, -1, 128⟩]
def note (out : List Run) (begun : Bool) (at_ : Int) (e : Ev) : List Run :=
  match (opened out begun at_)[(opened out begun at_).length - 1]? with
  | some r => (opened out begun at_).set ((opened out begun at_).length - 1) (put r at_ e)
  | none => opened out begun at_

theorem note_eq {out : List Run} {begun : Bool} {at_ : Int} {e : Ev} {o : List Run} {i : Nat} {r : Run} (ho : opened out begun at_ = o) (hi : i = o.length - 1) (hr : o[i]? = some r) : note out begun at_ e = o.set i (put r at_ e) := by
  subst hi
  unfold note
  rw [ho, hr]
theorem note_fin {out : List Run} {begun : Bool} {at_ : Int} {e : Ev} {o : List Run} {i : Nat} {r r2 : Run} (ho : opened out begun at_ = o) (hi : i = o.length - 1) (hr : o[i]? = some r) (r1 : Run) (h : r2 = put r at_ e) : (o.set i r1).set i r2 = note out begun at_ e := by
  rw [List.set_set, h, note_eq ho hi hr]
theorem opened_len {out : List Run} {b : Bool} {at_ : Int} : (opened out b at_).length ≤ out.length + 1 := by unfold opened; split <;> simp
theorem note_len {out : List Run} {b : Bool} {at_ : Int} {e : Ev} : (note out b at_ e).length ≤ out.length + 1 := by
  unfold note; split
  · simpa using opened_len
  · exact opened_len
theorem opened_ne {out : List Run} {b : Bool} {at_ : Int} (h : b = true → out ≠ []) : opened out b at_ ≠ [] := by unfold opened; split <;> simp_all
theorem note_ne {out : List Run} {b : Bool} {at_ : Int} {e : Ev} (h : b = true → out ≠ []) : note out b at_ e ≠ [] := by
  unfold note; split
  · intro hc
    have := congrArg List.length hc
    simp at this
    exact opened_ne (at_ := at_) h this
  · exact opened_ne h
theorem ends_dec {e : Ev} (h : ends e = true) : dec e = false := by
  simp only [ends, Bool.or_eq_true, decide_eq_true_eq] at h
  have : ¬ e.kind = 1 := by omega
  simp [dec, this]

def runF (s : Int) (st : List Run × Bool) (i : Nat) (e : Ev) : List Run × Bool :=
  if e.s ≠ s then st else if ends e then (st.1, false) else if dec e then (note st.1 st.2 i e, true) else st
def runs (s : Int) (l : List Ev) : List Run := (upI (runF s) ([], false) l l.length).1
def bad (r : Run) : Bool := decide (r.stop ≤ r.pass)
def wrong (s : Int) (l : List Ev) : Run × Bool := match (runs s l).find? bad with
  | some r => (r, true)
  | none => (⟨0, 0, 0, 0⟩, false)
def of (s : Int) (l : List Ev) : List Ev := l.filter fun e => decide (e.s = s)
def passF (st : Int × Int) (_ : Nat) (e : Ev) : Int × Int := if dec e then (if e.code = 0 then (st.1 + 1, st.2) else (st.1, st.2 + 1)) else st
def passed (s : Int) (l : List Ev) : Int × Int := upI passF (0, 0) (of s l) (of s l).length
def leastF (st : Int × Bool) (_ : Nat) (e : Ev) : Int × Bool := if dec e && (!st.2 || decide (e.b < st.1)) then (e.b, true) else st
def least (s : Int) (l : List Ev) : Int × Bool := upI leastF (0, false) (of s l) (of s l).length

theorem runs_len (s : Int) (l : List Ev) : (runs s l).length ≤ l.length := by
  have h : ∀ k, (upI (runF s) ([], false) l k).1.length ≤ k := by
    intro k
    induction k with
    | zero => simp [upI]
    | succ k ih =>
      simp only [upI]
      split
      · simp only [runF]
        repeat' split
        all_goals first | omega | (have := @note_len (upI (runF s) ([], false) l k).1 (upI (runF s) ([], false) l k).2 k ‹_›; simp only []; omega)
      · omega
  exact h _

theorem upI_foldl {σ α : Type} {f : σ → Nat → α → σ} (hf : ∀ st i j e, f st i e = f st j e) (z : σ) : ∀ (l : List α) (k : Nat), upI f z l k = (l.take k).foldl (fun st e => f st 0 e) z := by
  intro l k
  induction k with
  | zero => simp [upI]
  | succ k ih =>
    simp only [upI, ih]
    rw [List.take_add_one]
    cases h : l[k]? with
    | none => simp
    | some e => simp [hf _ k 0 e]

theorem passed_eq (s : Int) (l : List Ev) : passed s l = upI (fun st i e => if decide (e.s = s) = true then passF st i e else st) (0, 0) l l.length := by
  unfold passed of
  rw [upI_foldl (fun _ _ _ _ => rfl), upI_foldl (fun _ _ _ _ => rfl), List.take_length, List.take_length, List.foldl_filter]
theorem least_eq (s : Int) (l : List Ev) : least s l = upI (fun st i e => if decide (e.s = s) = true then leastF st i e else st) (0, false) l l.length := by
  unfold least of
  rw [upI_foldl (fun _ _ _ _ => rfl), upI_foldl (fun _ _ _ _ => rfl), List.take_length, List.take_length, List.foldl_filter]
theorem of_len (s : Int) (l : List Ev) : (of s l).length ≤ l.length := List.length_filter_le _ _
theorem ends_dec2 {e : Ev} {a b : Bool} (h1 : (a && ends e) = true) (h2 : (b && dec e) = true) : False := by
  simp only [Bool.and_eq_true] at h1 h2
  rw [ends_dec h1.2] at h2
  exact absurd h2.2 (by simp)
def passG (s : Int) (st : Int × Int) (i : Nat) (e : Ev) : Int × Int := if decide (e.s = s) = true then passF st i e else st
def leastG (s : Int) (st : Int × Bool) (i : Nat) (e : Ev) : Int × Bool := if decide (e.s = s) = true then leastF st i e else st
theorem passed_eq2 (s : Int) (l : List Ev) : passed s l = upI (passG s) (0, 0) l l.length := passed_eq s l
theorem least_eq2 (s : Int) (l : List Ev) : least s l = upI (leastG s) (0, false) l l.length := least_eq s l
theorem note_next {s : Int} {l : List Ev} {k : Nat} {out out' : List Run} {b : Bool} {e : Ev} (hk : k ≤ l.length) (hlt : k + 1 ≤ l.length) (hst : (out, b) = upI (runF s) ([], false) l k) (hne : b = true → out ≠ []) (hlen : out.length ≤ k) (he : l[k]? = some e)
    (h1 : e.s = s) (h2 : ends e = false) (h3 : dec e = true) (ho : out' = note out b k e) :
    k + 1 ≤ l.length ∧ (out', true) = upI (runF s) ([], false) l (k + 1) ∧ (true = true → out' ≠ []) ∧ out'.length ≤ k + 1 := by
  subst ho
  refine ⟨hlt, ?_, fun _ => note_ne hne, Nat.le_trans note_len (by omega)⟩
  rw [upI_succ he, ← hst]
  simp [runF, h1, h2, h3]
end Mono
end Go.LK
