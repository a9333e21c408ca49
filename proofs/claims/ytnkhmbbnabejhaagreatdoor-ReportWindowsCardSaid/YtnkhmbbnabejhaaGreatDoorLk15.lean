/-
  Strings: a string is the list of its bytes; conversions of integers; cells that may only be read (package variables); a contract of the library's told in this logic.
-/
import Derived.Test.YtnkhmbbnabejhaaGreatDoorLkB
namespace Go.LK
open Go Go.RowKit

/-- A string, by its bytes. -/
abbrev str (l : List UInt8) : Value := .string ⟨l.toArray⟩
theorem size_mk (l : List UInt8) : (ByteArray.mk l.toArray).size = l.length := by simp [ByteArray.size]

section
variable {c : Cx} {E : Env} {x y z : Operand} {T ty : TypeId} {l m : List UInt8}
theorem Pu.sLen (hT : ∀ w, (underlying T).run c.P w = .ok .string w) (hx : ev E x = some (str l)) : Pu c E (.call { callee := .builtin .len, args := #[x], argTypes := #[T] }) ty (.int .i64 l.length) := by
  have := Pu.lenS (c := c) (ty := ty) hT hx
  rwa [size_mk] at this
theorem Pu.sEql (hx : ev E x = some (str l)) (hy : ev E y = some (str m)) : Pu c E (.binOp .eql T x y T) ty (.bool (l == m)) := fun a w ha _ _ _ _ => by
  simp [execOp, eqGuard, ha.ev hx, ha.ev hy, binOp, Op.stringOp]
theorem Pu.sNeq (hx : ev E x = some (str l)) (hy : ev E y = some (str m)) : Pu c E (.binOp .neq T x y T) ty (.bool !(l == m)) := fun a w ha _ _ _ _ => by
  simp [execOp, eqGuard, ha.ev hx, ha.ev hy, binOp, Op.stringOp]
theorem append_mk (l m : List UInt8) : (ByteArray.mk l.toArray ++ ByteArray.mk m.toArray) = ByteArray.mk (l ++ m).toArray := by
  apply ByteArray.ext
  simp [ByteArray.data_append]
theorem Pu.sAdd (hx : ev E x = some (str l)) (hy : ev E y = some (str m)) (hb : l.length + m.length ≤ 9223372036854775807) : Pu c E (.binOp .add T x y T) ty (str (l ++ m)) := fun a w ha _ _ _ _ => by
  have h : (((ByteArray.mk l.toArray).size : Int) + ((ByteArray.mk m.toArray).size : Int)) ≤ 9223372036854775807 := by rw [size_mk, size_mk]; omega
  simp [execOp, eqGuard, ha.ev hx, ha.ev hy, binOp, Op.stringOp, append_mk]
  exact h
theorem extract_mk' (l : List UInt8) (a b : Nat) : (ByteArray.mk l.toArray).extract a b = ByteArray.mk ((l.drop a).take (b - a)).toArray := by
  rw [ByteArray.extract_mk]
theorem Pu.sCut {i j : Int} (hT : ∀ w, (underlying T).run c.P w = .ok .string w) (hx : ev E x = some (str l)) (hy : ev E y = some (.int .i64 i)) (hz : ev E z = some (.int .i64 j)) (h0 : 0 ≤ i) (h1 : i ≤ j) (h2 : j ≤ l.length) :
    Pu c E (.slice T x (some y) (some z) none) ty (str ((l.drop i.toNat).take (j.toNat - i.toNat))) := fun a w ha _ _ _ _ => by
  have h4 : i ≤ Max.max j 0 := by omega
  simp [execOp, ha.ev hx, ha.ev hy, ha.ev hz, Instr.sliceAt, Instr.slice, Instr.sliceBounds, Instr.sliceBound, asIntOf, hT, size_mk, h0, h2, h4, show (0 : Int) ≤ j from by omega, extract_mk']
theorem Pu.sHead {j : Int} (hT : ∀ w, (underlying T).run c.P w = .ok .string w) (hx : ev E x = some (str l)) (hz : ev E z = some (.int .i64 j)) (h0 : 0 ≤ j) (h2 : j ≤ l.length) :
    Pu c E (.slice T x none (some z) none) ty (str (l.take j.toNat)) := fun a w ha _ _ _ _ => by
  simp [execOp, ha.ev hx, ha.ev hz, Instr.sliceAt, Instr.slice, Instr.sliceBounds, Instr.sliceBound, asIntOf, hT, size_mk, h0, h2, extract_mk']
theorem Pu.sTail {i : Int} (hT : ∀ w, (underlying T).run c.P w = .ok .string w) (hx : ev E x = some (str l)) (hy : ev E y = some (.int .i64 i)) (h0 : 0 ≤ i) (h2 : i ≤ l.length) :
    Pu c E (.slice T x (some y) none none) ty (str (l.drop i.toNat)) := fun a w ha _ _ _ _ => by
  simp [execOp, ha.ev hx, ha.ev hy, Instr.sliceAt, Instr.slice, Instr.sliceBounds, Instr.sliceBound, asIntOf, hT, size_mk, h0, h2, extract_mk', List.take_of_length_le]
theorem Pu.conv {S D : TypeId} {k k' : IntKind} {n : Int} {ds : TypeDesc} (hS : ∀ w, (underlying S).run c.P w = .ok ds w) (hD : ∀ w, (underlying D).run c.P w = .ok (.int k) w) (hx : ev E x = some (.int k' n)) : Pu c E (.convert S D x) ty (.int k (k.wrap n)) := fun a w ha _ _ _ _ => by
  simp [execOp, ha.ev hx, convert, hS, hD, Conv.intToInt]
end

section
variable {c : Cx} {E : Env} {x y : Operand} {T ty : TypeId} {kd : IntKind} {m n : Int}
theorem Pu.quo (hx : ev E x = some (.int kd m)) (hy : ev E y = some (.int kd n)) (h : ¬ n = 0) : Pu c E (.binOp .quo T x y T) ty (.int kd (kd.wrap (m.tdiv n))) := fun a w ha _ _ _ _ => by simp [execOp, eqGuard, ha.ev hx, ha.ev hy, binOp, Op.intDiv, h]
theorem Pu.rem (hx : ev E x = some (.int kd m)) (hy : ev E y = some (.int kd n)) (h : ¬ n = 0) : Pu c E (.binOp .rem T x y T) ty (.int kd (m.tmod n)) := fun a w ha _ _ _ _ => by simp [execOp, eqGuard, ha.ev hx, ha.ev hy, binOp, Op.intDiv, h]
theorem Pu.quo' (hx : ev E x = some (.int .i64 m)) (hy : ev E y = some (.int .i64 n)) (h0 : 0 ≤ m) (h1 : 1 ≤ n) (hb : m ≤ 9223372036854775807) : Pu c E (.binOp .quo T x y T) ty (.int .i64 (m / n)) := by
  have h := Pu.quo (c := c) (T := T) (ty := ty) hx hy (by omega)
  have h2 : m / n ≤ m := Int.ediv_le_self n h0
  have h3 : 0 ≤ m / n := Int.ediv_nonneg h0 (by omega)
  rw [Int.tdiv_eq_ediv_of_nonneg h0, in_i64 (by omega)] at h
  exact h
theorem Pu.rem' (hx : ev E x = some (.int kd m)) (hy : ev E y = some (.int kd n)) (h0 : 0 ≤ m) (h1 : 1 ≤ n) : Pu c E (.binOp .rem T x y T) ty (.int kd (m % n)) := by
  have h := Pu.rem (c := c) (T := T) (ty := ty) hx hy (by omega)
  rw [Int.tmod_eq_emod_of_nonneg h0] at h
  exact h
theorem Pu.mul' (hx : ev E x = some (.int .i64 m)) (hy : ev E y = some (.int .i64 n)) (h : -9223372036854775808 ≤ m * n ∧ m * n ≤ 9223372036854775807) : Pu c E (.binOp .mul T x y T) ty (.int .i64 (m * n)) := by
  have := Pu.mul (c := c) (T := T) (ty := ty) hx hy; rwa [in_i64 h] at this
theorem Pu.neg (hx : ev E x = some (.int kd m)) : Pu c E (.unOp .neg T x) ty (.int kd (kd.wrap (0 - m))) := fun a w ha _ _ _ _ => by simp [execOp, ha.ev hx, Op.unary, Op.intArith]
end

/-- A cell that may be read. -/
def gl (g : Nat) (v : Value) : Sp where
  foot := [g]
  holds w := w.cell? ⟨g, 0, none⟩ = some v
  lt w h := by
    intro k hk
    simp at hk; subst hk
    exact cell_lt h
  loc w w' h hh := by
    rw [← hh]; exact cell_of_block (h g (by simp))

/-- A contract of the library's in this logic: what it lays is new, and nothing else turns. -/
theorem Tri.lib {P : Program} {f : FuncId} {args : Array Value} {Ro : List Sp} {v : Value} (h : ∀ w, (∀ A ∈ Ro, A.holds w) → Calls P f args w fun e w' => e = .returned v ∧ Frame w [] w') : Tri P f args Ro [] (fun u L' => u = v ∧ L' = []) := fun w hro hst =>
  (h w fun A hA => (hro A hA).1).mono fun e w' ⟨he, hf⟩ => ⟨v, [], he, ⟨rfl, rfl⟩, ⟨hf, fun A hA => (by cases hA), .nil, fun k hk => (by simp [feet] at hk)⟩⟩
end Go.LK
