/-
  A slice that the library has laid; lists of texts.
-/
import Derived.Test.YtnkhmbbnabejhaaLk20
import Derived.Lib.Split
namespace Go.LK
open Go Go.RowKit

def encS (l : List UInt8) : List Value := [str l]
theorem encS.one {l : List (List UInt8)} : ∀ a ∈ l, (encS a).all Value.oneCell' = true := fun _ _ => rfl
def encZ (n : Int) : List Value := [.int .i64 n]
theorem encZ.one {l : List Int} : ∀ a ∈ l, (encZ a).all Value.oneCell' = true := fun _ _ => rfl
theorem row_laid {w : World} {t : TypeId} {s n : Nat} {els : List (List Value)} (hl : els.length = n) (hle : ∀ x ∈ els, x.length = s) (hn : n ≤ 4611686018427387904) :
    (row (.slice (some ⟨w.heap.size, 0, none⟩) n n) t s els).holds (w.alloc (.cells els.flatten.toArray t)) := by
  refine ⟨⟨length_flatten hle, .inr ⟨w.heap.size, n, _, by rw [hl], Nat.zero_le _, heap_alloc_new w _, by omega, ?_, by simp [length_flatten hle, hl], ?_⟩⟩, hle⟩
  · unfold maxLen; omega
  · rw [List.take_of_length_le (by simp [length_flatten hle])]
theorem flatten_encS : ∀ (l : List (List UInt8)), (l.map encS).flatten = l.map str
  | [] => rfl
  | x :: l => by rw [List.map_cons, List.flatten_cons, flatten_encS l]; rfl
theorem strings_of (l : List ByteArray) : l.map Value.string = (l.map (·.data.toList)).map str := by
  rw [List.map_map]
  refine List.map_congr_left fun s _ => ?_
  exact str_of s
/-- A contract of the library's that hands back a slice of its own. -/
theorem Tri.libRow {P : Program} {f : FuncId} {args : Array Value} {Ro : List Sp} {t : TypeId} {s : Nat} {els : List (List Value)} (hle : ∀ x ∈ els, x.length = s) (hn : els.length ≤ 4611686018427387904)
    (h : ∀ w, (∀ A ∈ Ro, A.holds w) → Calls P f args w fun e w' => e = .returned (.slice (some ⟨w.heap.size, 0, none⟩) els.length els.length) ∧ w' = w.alloc (.cells els.flatten.toArray t)) : Tri P f args Ro [] (fun v L' => L' = [row v t s els]) := fun w hro hst =>
  (h w fun A hA => (hro A hA).1).mono fun e w' ⟨he, hw⟩ => by
    subst hw
    refine ⟨_, [row _ t s els], he, rfl, ⟨(frame_alloc w _), fun A hA => ?_, List.pairwise_singleton _ _, fun k hk => ?_⟩⟩
    · rw [List.mem_singleton] at hA
      subst hA
      exact row_laid rfl hle hn
    · simp [feet, row, Value.ownBlock] at hk
      exact .inl (by omega)
end Go.LK
