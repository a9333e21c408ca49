/-
  Integers of other kinds that came in.
-/
import Derived.Test.YtnfkoohgdcocdaaDoorLaw2
import Derived.Test.YtnfkoohgdcocdaaDoorDec1
namespace Go.LK
open Go Go.RowKit
theorem nat_u64 {x : Int} (h : (Lit.int .u64 x).wf = true) : ∃ n : Nat, x = (Nat.cast n : Int) ∧ n < 18446744073709551616 := by
  have h1 := bounds_u64 h
  exact ⟨x.toNat, by omega, by omega⟩
theorem i64_of {x : Int} (h : (Lit.int .i64 x).wf = true) : Dc.I64 x := bounds_i64 h
end Go.LK
