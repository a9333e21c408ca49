/-
  Events, runs: what the functions of the layers mono and trace compute, as plain functions on lists.
-/
import Derived.Test.YtohjlkjhpibkmaaGreatDoorLkA
namespace Go.LK
open Go

structure Ev where
  kind : Int
  tick : Int
  s : Int
  id : Int
  code : Int
  a : Int
  b : Int
def Ev.cells (e : Ev) : List Value := [.int .i64 e.kind, .int .i64 e.tick, .int .i64 e.s, .int .i64 e.id, .int .i64 e.code, .int .i64 e.a, .int .i64 e.b]
theorem Ev.one {l : List Ev} : ∀ a ∈ l, (Ev.cells a).all Value.oneCell' = true := fun _ _ => rfl

structure Run where
  frm : Int
  to : Int
  pass : Int
  stop : Int
def Run.cells (e : Run) : List Value := [.int .i64 e.frm, .int .i64 e.to, .int .i64 e.pass, .int .i64 e.stop]
theorem Run.one {l : List Run} : ∀ a ∈ l, (Run.cells a).all Value.oneCell' = true := fun _ _ => rfl

namespace Mono
def dec (e : Ev) : Bool := decide (e.kind = 1) && (decide (e.code = 0) || decide (e.code = 2))
def ends (e : Ev) : Bool := decide (e.kind = 9) || decide (e.kind = 11) || decide (e.kind = 10)

def put (r : Run) (at_ : Int) (e : Ev) : Run :=
  if e.code = 0 then { r with to := at_, pass := if e.a > r.pass then e.a else r.pass } else { r with to := at_, stop := if e.a < r.stop then e.a else r.stop }
def opened (out : List Run) (begun : Bool) (at_ : Int) : List Run := if begun then out else out ++ [⟨at_, 0, -1, 128⟩]
def note (out : List Run) (begun : Bool) (at_ : Int) (e : Ev) : List Run :=
  match (opened out begun at_)[(opened out begun at_).length - 1]? with
  | some r => (opened out begun at_).set ((opened out begun at_).length - 1) (put r at_ e)
  | none => opened out begun at_

def runF (s : Int) (st : List Run × Bool) (i : Nat) (e : Ev) : List Run × Bool :=
  if e.s ≠ s then st else if ends e then (st.1, false) else if dec e then (note st.1 st.2 i e, true) else st
def runs (s : Int) (l : List Ev) : List Run := (upI (runF s) ([], false) l l.length).1
def of (s : Int) (l : List Ev) : List Ev := l.filter fun e => decide (e.s = s)

end Mono
end Go.LK
