/-
  Structs of anything that can be compared, field by field; low bits.
-/
import Derived.Test.YtdnalilglacjbaaLk35
namespace Go.LK
open Go Go.RowKit
def EqR (P : Program) (d : Nat) (t : TypeId) (x y : Value) (b : Bool) : Prop := ∀ w, (Op.equalIn d t x y).run P w = .ok b w
inductive EqFs (P : Program) (d : Nat) (xs ys : Array Value) : List Field → Bool → Prop
  | nil : EqFs P d xs ys [] true
  | cons {f : Field} {fs : List Field} {x y : Value} {b1 b2 : Bool} (hn : (f.name == "_") = false) (hx : ∀ w, (part f.type xs f.offset).run P w = .ok x w) (hy : ∀ w, (part f.type ys f.offset).run P w = .ok y w) (h : EqR P d f.type x y b1) (hs : EqFs P d xs ys fs b2) : EqFs P d xs ys (f :: fs) (b1 && b2)
section
variable {P : Program} {d : Nat} {t : TypeId} {xs ys : Array Value} {v : Value}
theorem EqR.int {a b : Int} (hu : P.underlying t = some (.int .i64)) : EqR P (d + 1) t (.int .i64 a) (.int .i64 b) (decide (a = b)) := fun w => by rw [run_equalIn_int w d t .i64 .i64 a b hu]; rfl
theorem EqR.bool {a b : Bool} (hu : P.underlying t = some .bool) : EqR P (d + 1) t (.bool a) (.bool b) (a == b) := fun w => run_equalIn_bool w d t a b hu
theorem EqFs.run {fs : List Field} {b : Bool} (h : EqFs P d xs ys fs b) (w : World) : (Op.eqFields d xs ys fs).run P w = .ok b w := by
  induction h with
  | nil => rfl
  | cons hn hx hy h hs ih =>
    rename_i f fs x y b1 b2
    have hn' : ¬ f.name = "_" := by simpa using hn
    simp only [Op.eqFields, if_pos hn', Sem.run_bind, hx, hy, Result.andThen_ok, h w]
    cases b1
    · simp
    · simpa using ih
theorem EqR.struct {fs : Array Field} {b : Bool} (hT : P.underlying t = some (.struct fs)) (hp : P.stoodInHeld t = false) (h : EqFs P d xs ys fs.toList b) : EqR P (d + 1) t (.agg xs) (.agg ys) b := fun w => by
  have h1 : P.fieldsOf t = fs := by simp [Program.fieldsOf, hT]
  rw [run_equalIn_struct w d t _ _ (by rw [h1]; exact hT) hp, h1]
  exact h.run w
theorem partOne {off : Nat} (hag : ∀ w, (isAgg t).run P w = .ok false w) (h : xs[off]? = some v) : ∀ w, (part t xs off).run P w = .ok v w := fun w => by simp [part, hag, h]
theorem partAgg {off n : Nat} {l : List Value} (hag : ∀ w, (isAgg t).run P w = .ok true w) (hz : ∀ w, (sizeOf t).run P w = .ok n w) (h : xs.extract off (off + n) = l.toArray) : ∀ w, (part t xs off).run P w = .ok (.agg l.toArray) w := fun w => by simp [part, hag, hz, h]
end
section
variable {c : Cx} {E : Env} {ty : TypeId} {x y : Operand} {T : TypeId} {xs ys : Array Value} {b : Bool}
theorem Pu.neqG (hg : c.P.eqGuardType c.P.depth T = false) (h : EqR c.P 10000 T (.agg xs) (.agg ys) b) (hx : ev E x = some (.agg xs)) (hy : ev E y = some (.agg ys)) : Pu c E (.binOp .neq T x y T) ty (.bool !b) := fun a w ha _ _ _ _ => by
  simp only [execOp, ha.ev hx, ha.ev hy, Sem.run_bind, run_eqGuard_agg w .neq T x y _ _ hg, Result.andThen_ok, run_neq_struct, h w, Sem.run_pure]
theorem and7 (m : Int) : IntKind.i64.wrap ((((m % 2 ^ IntKind.i64.bits).toNat &&& 7 % 2 ^ IntKind.i64.bits) : Nat) : Int) = m % 8 := by
  have h1 : (m % 2 ^ IntKind.i64.bits : Int) = m % 18446744073709551616 := rfl
  have h2 : (7 % 2 ^ IntKind.i64.bits : Nat) = 2 ^ 3 - 1 := rfl
  rw [h1, h2, Nat.and_two_pow_sub_one_eq_mod, in_i64 (by omega)]
  omega
theorem and15 (m : Int) : IntKind.i64.wrap ((((m % 2 ^ IntKind.i64.bits).toNat &&& 15 % 2 ^ IntKind.i64.bits) : Nat) : Int) = m % 16 := by
  have h1 : (m % 2 ^ IntKind.i64.bits : Int) = m % 18446744073709551616 := rfl
  have h2 : (15 % 2 ^ IntKind.i64.bits : Nat) = 2 ^ 4 - 1 := rfl
  rw [h1, h2, Nat.and_two_pow_sub_one_eq_mod, in_i64 (by omega)]
  omega
theorem Pu.and7 {m : Int} (hx : ev E x = some (.int .i64 m)) (hy : ev E y = some (.int .i64 7)) : Pu c E (.binOp .and T x y T) ty (.int .i64 (m % 8)) := fun a w ha _ _ _ _ => by
  simp only [execOp, ha.ev hx, ha.ev hy]
  simp [eqGuard, binOp, Op.intBits, LK.and7 m]
theorem Pu.and15 {m : Int} (hx : ev E x = some (.int .i64 m)) (hy : ev E y = some (.int .i64 15)) : Pu c E (.binOp .and T x y T) ty (.int .i64 (m % 16)) := fun a w ha _ _ _ _ => by
  simp only [execOp, ha.ev hx, ha.ev hy]
  simp [eqGuard, binOp, Op.intBits, LK.and15 m]
end
end Go.LK
