/-
  A slice that the library has laid; lists of texts.
-/
import Derived.Test.YtohjlkjhpibkmaaGreatDoorLk20
import Derived.Lib.Split
namespace Go.LK
open Go Go.RowKit

def encS (l : List UInt8) : List Value := [str l]
theorem encS.one {l : List (List UInt8)} : ∀ a ∈ l, (encS a).all Value.oneCell' = true := fun _ _ => rfl
def encZ (n : Int) : List Value := [.int .i64 n]
theorem encZ.one {l : List Int} : ∀ a ∈ l, (encZ a).all Value.oneCell' = true := fun _ _ => rfl
end Go.LK
