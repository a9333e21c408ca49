/-
  Equality of structs of integers; of bools.
-/
import Derived.Test.YtnkhmbbnabejhaaLk6
namespace Go.LK
open Go Go.RowKit

def intVals (as : List Int) : List Value := as.map (.int .i64)

def FInt (P : Program) : Nat → List Field → Prop
  | _, [] => True
  | i, f :: fs => f.offset = i ∧ (f.name == "_") = false ∧ P.underlying f.type = some (.int .i64) ∧ FInt P (i + 1) fs

theorem run_eqFields {P : Program} {w : World} {d : Nat} (as bs : List Int) : ∀ (fs : List Field) (i : Nat), FInt P i fs → i + fs.length = as.length → i + fs.length = bs.length →
    (Op.eqFields (d + 1) (intVals as).toArray (intVals bs).toArray fs).run P w = .ok (decide (as.drop i = bs.drop i)) w
  | [], i, _, ha, hb => by
    have h1 : as.drop i = [] := List.drop_eq_nil_of_le (by simp at ha; omega)
    have h2 : bs.drop i = [] := List.drop_eq_nil_of_le (by simp at hb; omega)
    simp [Op.eqFields, h1, h2]
  | f :: fs, i, hf, ha, hb => by
    obtain ⟨ho, hn, hu, hr⟩ := hf
    have ih := run_eqFields (P := P) (w := w) (d := d) as bs fs (i + 1) hr (by simp at ha; omega) (by simp at hb; omega)
    have hla : i < as.length := by simp at ha; omega
    have hlb : i < bs.length := by simp at hb; omega
    have hn' : ¬ f.name = "_" := by simpa using hn
    have hag : ∀ w, (isAgg f.type).run P w = .ok false w := fun w => by simp [isAgg, run_underlying hu]
    have pa : ∀ (cs : List Int) (h : i < cs.length), (part f.type (intVals cs).toArray f.offset).run P w = .ok (.int .i64 cs[i]) w := fun cs h => by
      simp [part, hag, ho, intVals, h]
    simp only [Op.eqFields, if_pos hn', Sem.run_bind, pa as hla, pa bs hlb, Result.andThen_ok, run_equalIn_int w d f.type .i64 .i64 _ _ hu, Sem.run_ite]
    have key : (as.drop i = bs.drop i) ↔ (as[i] = bs[i] ∧ as.drop (i + 1) = bs.drop (i + 1)) := by
      rw [List.drop_eq_getElem_cons hla, List.drop_eq_getElem_cons hlb, List.cons.injEq]
    by_cases he : as[i] = bs[i]
    · have : decide (as.drop i = bs.drop i) = decide (as.drop (i + 1) = bs.drop (i + 1)) := decide_eq_decide.2 (key.trans ⟨fun h => h.2, fun h => ⟨he, h⟩⟩)
      rw [this]
      simp [he, ih]
    · have : decide (as.drop i = bs.drop i) = false := decide_eq_false fun h => he (key.1 h).1
      rw [this]
      simp [he]

section
variable {c : Cx} {E : Env} {L : List Sp} {ty : TypeId} {x y : Operand} {T : TypeId}
theorem run_eqI {P : Program} {fs : Array Field} (as bs : List Int) (hT : P.underlying T = some (.struct fs)) (hp : P.stoodInHeld T = false) (hf : FInt P 0 fs.toList) (ha : as.length = fs.size) (hb : bs.length = fs.size) (w : World) :
    (Op.equalIn 10000 T (.agg (intVals as).toArray) (.agg (intVals bs).toArray)).run P w = .ok (decide (as = bs)) w := by
  have h1 : P.fieldsOf T = fs := by simp [Program.fieldsOf, hT]
  rw [run_equalIn_struct w 9999 T _ _ (by rw [h1]; exact hT) hp, h1]
  have := run_eqFields (P := P) (w := w) (d := 9998) as bs fs.toList 0 hf (by simp [ha]) (by simp [hb])
  simpa using this

theorem Pu.eqlI {fs : Array Field} (as bs : List Int) (hT : c.P.underlying T = some (.struct fs)) (hp : c.P.stoodInHeld T = false) (hg : c.P.eqGuardType c.P.depth T = false) (hf : FInt c.P 0 fs.toList) (ha : as.length = fs.size) (hb : bs.length = fs.size)
    (hx : ev E x = some (.agg (intVals as).toArray)) (hy : ev E y = some (.agg (intVals bs).toArray)) : Pu c E (.binOp .eql T x y T) ty (.bool (decide (as = bs))) := fun a w h _ _ _ _ => by
  simp only [execOp, h.ev hx, h.ev hy, Sem.run_bind, run_eqGuard_agg w .eql T x y _ _ hg, Result.andThen_ok, run_eql_struct, run_eqI as bs hT hp hf ha hb w, Sem.run_pure]
theorem Pu.neqI {fs : Array Field} (as bs : List Int) (hT : c.P.underlying T = some (.struct fs)) (hp : c.P.stoodInHeld T = false) (hg : c.P.eqGuardType c.P.depth T = false) (hf : FInt c.P 0 fs.toList) (ha : as.length = fs.size) (hb : bs.length = fs.size)
    (hx : ev E x = some (.agg (intVals as).toArray)) (hy : ev E y = some (.agg (intVals bs).toArray)) : Pu c E (.binOp .neq T x y T) ty (.bool (!decide (as = bs))) := fun a w h _ _ _ _ => by
  simp only [execOp, h.ev hx, h.ev hy, Sem.run_bind, run_eqGuard_agg w .neq T x y _ _ hg, Result.andThen_ok, run_neq_struct, run_eqI as bs hT hp hf ha hb w, Sem.run_pure]

theorem Pu.beql {p q : Bool} (hT : c.P.underlying T = some .bool) (hx : ev E x = some (.bool p)) (hy : ev E y = some (.bool q)) : Pu c E (.binOp .eql T x y T) ty (.bool (p == q)) := fun a w h _ _ _ _ => by
  have h1 := run_equalIn_bool (P := c.P) w 9999 T p q hT
  simp [execOp, h.ev hx, h.ev hy, eqGuard, binOp, Op.equal, Op.maxDepth, h1]
theorem Pu.bneq {p q : Bool} (hT : c.P.underlying T = some .bool) (hx : ev E x = some (.bool p)) (hy : ev E y = some (.bool q)) : Pu c E (.binOp .neq T x y T) ty (.bool (p != q)) := fun a w h _ _ _ _ => by
  have h1 := run_equalIn_bool (P := c.P) w 9999 T p q hT
  simp [execOp, h.ev hx, h.ev hy, eqGuard, binOp, Op.equal, Op.maxDepth, h1]
  cases p <;> cases q <;> rfl
end
end Go.LK
