/-
  Structs of one struct: compared as the lists of their integers; interface values held against nil.
-/
import Derived.Test.YtnkhmbbnabejhaaLk16
namespace Go.LK
open Go Go.RowKit

theorem run_eqId {P : Program} {T : TypeId} {fs : Array Field} (d : Nat) (as bs : List Int) (hT : P.underlying T = some (.struct fs)) (hp : P.stoodInHeld T = false) (hf : FInt P 0 fs.toList) (ha : as.length = fs.size) (hb : bs.length = fs.size) (w : World) :
    (Op.equalIn (d + 2) T (.agg (intVals as).toArray) (.agg (intVals bs).toArray)).run P w = .ok (decide (as = bs)) w := by
  have h1 : P.fieldsOf T = fs := by simp [Program.fieldsOf, hT]
  rw [run_equalIn_struct w (d + 1) T _ _ (by rw [h1]; exact hT) hp, h1]
  have := run_eqFields (P := P) (w := w) (d := d) as bs fs.toList 0 hf (by simp [ha]) (by simp [hb])
  simpa using this
theorem run_eqW {P : Program} {T : TypeId} {f : Field} {fs : Array Field} (as bs : List Int) (hT : P.underlying T = some (.struct #[f])) (hp : P.stoodInHeld T = false) (hfn : (f.name == "_") = false) (ho : f.offset = 0)
    (hT2 : P.underlying f.type = some (.struct fs)) (hp2 : P.stoodInHeld f.type = false) (hf : FInt P 0 fs.toList) (hz : ∀ w, (sizeOf f.type).run P w = .ok fs.size w) (ha : as.length = fs.size) (hb : bs.length = fs.size) (w : World) :
    (Op.equalIn 10000 T (.agg (intVals as).toArray) (.agg (intVals bs).toArray)).run P w = .ok (decide (as = bs)) w := by
  have h1 : P.fieldsOf T = #[f] := by simp [Program.fieldsOf, hT]
  rw [run_equalIn_struct w 9999 T _ _ (by rw [h1]; exact hT) hp, h1]
  have hn' : ¬ f.name = "_" := by simpa using hfn
  have hag : ∀ w, (isAgg f.type).run P w = .ok true w := fun w => by simp [isAgg, run_underlying hT2]
  have pa : ∀ (cs : List Int), cs.length = fs.size → (part f.type (intVals cs).toArray f.offset).run P w = .ok (.agg (intVals cs).toArray) w := fun cs h => by
    simp [part, hag, ho, hz, ← h, intVals]
    exact List.take_of_length_le (by simp)
  have he := run_eqId (P := P) 9997 as bs hT2 hp2 hf ha hb w
  simp only [Op.eqFields, if_pos hn', Sem.run_bind, pa as ha, pa bs hb, Result.andThen_ok, he]
  by_cases hc : as = bs <;> simp [hc]
section
variable {c : Cx} {E : Env} {x y : Operand} {T ty : TypeId} {f : Field} {fs : Array Field}
theorem Pu.eqlW (as bs : List Int) (hT : c.P.underlying T = some (.struct #[f])) (hp : c.P.stoodInHeld T = false) (hg : c.P.eqGuardType c.P.depth T = false) (hfn : (f.name == "_") = false) (ho : f.offset = 0)
    (hT2 : c.P.underlying f.type = some (.struct fs)) (hp2 : c.P.stoodInHeld f.type = false) (hf : FInt c.P 0 fs.toList) (hz : ∀ w, (sizeOf f.type).run c.P w = .ok fs.size w) (ha : as.length = fs.size) (hb : bs.length = fs.size)
    (hx : ev E x = some (.agg (intVals as).toArray)) (hy : ev E y = some (.agg (intVals bs).toArray)) : Pu c E (.binOp .eql T x y T) ty (.bool (decide (as = bs))) := fun a w h _ _ _ _ => by
  simp only [execOp, h.ev hx, h.ev hy, Sem.run_bind, run_eqGuard_agg w .eql T x y _ _ hg, Result.andThen_ok, run_eql_struct, run_eqW as bs hT hp hfn ho hT2 hp2 hf hz ha hb w, Sem.run_pure]

/-- An error held against nil. -/
theorem Pu.isNil {ms : Array (String × TypeId)} (hT : c.P.underlying T = some (.interface ms)) (hx : ev E x = some .nilIface) : Pu c E (.binOp .neq T x (.const .nilIface) T) ty (.bool false) := fun a w h _ _ _ _ => by
  have h2 : a.eval (.const .nilIface) = .nilIface := rfl
  have h3 : ∀ d, (Op.equalIn (d + 1) T .nilIface .nilIface).run c.P w = .ok true w := fun d => by simp [Op.equalIn, run_underlying hT]
  have h4 : (binOp .neq T .nilIface .nilIface).run c.P w = .ok (.bool false) w := by
    show (do pure (.bool (!(← Op.equal T .nilIface .nilIface))) : Sem Value).run c.P w = _
    rw [Sem.run_bind, show Op.equal T .nilIface .nilIface = Op.equalIn (9999 + 1) T .nilIface .nilIface from rfl, h3]
    rfl
  simp only [execOp, h.ev hx, h2, eqGuard_nil_constR]
  simp [h4]
theorem Pu.isSome {ms : Array (String × TypeId)} {t' : TypeId} {v : Value} (hT : c.P.underlying T = some (.interface ms)) (hx : ev E x = some (.iface t' v)) : Pu c E (.binOp .neq T x (.const .nilIface) T) ty (.bool true) := fun a w h _ _ _ _ => by
  have h2 : a.eval (.const .nilIface) = .nilIface := rfl
  have h3 : ∀ d, (Op.equalIn (d + 1) T (.iface t' v) .nilIface).run c.P w = .ok false w := fun d => by simp [Op.equalIn, run_underlying hT]
  have h4 : (binOp .neq T (.iface t' v) .nilIface).run c.P w = .ok (.bool true) w := by
    show (do pure (.bool (!(← Op.equal T (.iface t' v) .nilIface))) : Sem Value).run c.P w = _
    rw [Sem.run_bind, show Op.equal T (.iface t' v) .nilIface = Op.equalIn (9999 + 1) T (.iface t' v) .nilIface from rfl, h3]
    rfl
  have h5 : eqGuard .neq T x (.const .nilIface) (.iface t' v) .nilIface = pure () := by cases x <;> rfl
  simp only [execOp, h.ev hx, h2, h5]
  simp [h4]
end
end Go.LK
