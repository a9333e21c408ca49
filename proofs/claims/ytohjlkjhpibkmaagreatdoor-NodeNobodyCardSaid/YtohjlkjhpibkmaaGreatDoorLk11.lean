/-
  make([]T, n).
-/
import Derived.Test.YtohjlkjhpibkmaaGreatDoorLk10
namespace Go.LK
open Go Go.RowKit

theorem Lo.makeSlice {t T ty : TypeId} {c : Cx} {E : Env} {L : List Sp} {n s bytes : Nat} {inf : TypeInfo} {zv : Value} {x y : Operand} (els : List (List Value)) (hT : ∀ w, (underlying T).run c.P w = .ok (.slice t) w) (hi : ∀ w, (typeInfo t).run c.P w = .ok inf w) (hb : inf.bytes = bytes) (hs : ∀ w, (sizeOf t).run c.P w = .ok s w) (hz : ∀ w, (zeroValue t).run c.P w = .ok zv w)
    (hx : ev E x = some (.int .i64 (n : Int))) (hy : ev E y = some (.int .i64 (n : Int))) (hn : Nat.ble (n * s) 16777216 = true) (hn0 : Nat.blt 0 (n * s) = true) (hnb : Nat.ble (bytes * n) 281474976710656 = true)
    (hf : ((Array.range (n * s)).map (zv.cells[· % zv.cells.size]!)) = els.flatten.toArray) (hl : els.length = n) (hle : (els.all (fun e => e.length == s)) = true) :
    Lo c E L (.makeSlice T x y) ty fun v L' => L' = row v t s els :: L := fun _ a w ha hst d pos af g K Q hK => by
  have hne : n * s ≠ 0 := by have := Nat.le_of_ble_eq_true hn0; omega
  have hn' := Nat.le_of_ble_eq_true hn
  have hnb' := Nat.le_of_ble_eq_true hnb
  have hs0 : 0 < s := Nat.pos_of_ne_zero fun e => hne (by rw [e]; simp)
  have hns := Nat.le_mul_of_pos_right n hs0
  have hle' : ∀ x ∈ els, x.length = s := by simpa using hle
  have hw : IntKind.i64.wrap (n : Int) = n := by
    simp [IntKind.wrap, IntKind.bits, IntKind.signed]; omega
  have hb2 : ¬ (281474976710656 < (bytes : Int) * (n : Int)) := by
    have h := Int.ofNat_le.2 hnb'
    rw [Int.natCast_mul] at h
    exact fun hc => absurd (Int.lt_of_lt_of_le hc h) (by decide)
  have hn2 : ¬ ((n : Int) < 0) := by omega
  refine wp_loud (v := .slice (some ⟨w.heap.size, 0, none⟩) n n) (w' := w.alloc (.cells els.flatten.toArray t)) ?_ (hK _ _ _ rfl (hst.add (frame_alloc w _) ⟨?_, hle'⟩ (by simp [row, Value.ownBlock])))
  · simp [execOp, ha.ev hx, ha.ev hy, Instr.makeSlice, asInt, asIntOf, hT, hi, hb, hs, hz, hw, hb2, hn2, hne, hf, run_newRow]
  · refine ⟨length_flatten hle', .inr ⟨w.heap.size, n, _, by rw [hl], Nat.zero_le _, heap_alloc_new w _, by omega, ?_, by simp [length_flatten hle', hl], ?_⟩⟩
    · unfold maxLen; omega
    · rw [List.take_of_length_le (by simp [length_flatten hle'])]
end Go.LK
