/-
  The plain law of numbers as texts.
-/
import Derived.Test.YtnhfgnnpbipcnaaGreatDoorLkM
namespace Go.LK.Dc
open Go Go.LK

def okI (s : List UInt8) : Bool := match Lib.parseIntB 64 s with | .ok _ => true | _ => false
def parse (s : List UInt8) : Int × Int := match Lib.parseIntB 64 s with
  | .ok n => if Lib.itoa n = s then (n, 0) else (0, 2)
  | _ => (0, 2)
theorem parse_no {s : List UInt8} (h : okI s = false) : parse s = (0, 2) := by
  unfold okI at h
  unfold parse
  split at h
  · cases h
  · rfl
theorem parse_ok {s : List UInt8} {n : Int} (h : Lib.parseIntB 64 s = .ok n) (h2 : (Lib.itoa n == s) = true) : parse s = (n, 0) := by
  unfold parse
  rw [h]
  simp only []
  rw [if_pos (by simpa using h2)]
theorem parse_bad {s : List UInt8} {n : Int} (h : Lib.parseIntB 64 s = .ok n) (h2 : (Lib.itoa n == s) = false) : parse s = (0, 2) := by
  unfold parse
  rw [h]
  simp only []
  rw [if_neg (by simpa using h2)]
end Go.LK.Dc
