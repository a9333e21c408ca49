/-
  Arrays as values: built, and looked at by an index that is known; structs of integers by their list; bits of integers.
-/
import Derived.Test.YtohjlkjhpibkmaaGreatDoorLk23
namespace Go.LK
open Go Go.RowKit

section
variable {c : Cx} {k : List It} {E : Env} {L : List Sp} {ty : TypeId} {v : Value} {x y : Operand} {T : TypeId}
theorem Pu.buildA {parts : List (Nat × Operand)} {n e s : Nat} (vs : List (Nat × Value)) (cs : List Value) {zv : Value} (hT : ∀ w, (underlying T).run c.P w = .ok (.array n e) w) (hz : ∀ w, (zeroValue T).run c.P w = .ok zv w) (hs : ∀ w, (sizeOf e).run c.P w = .ok s w)
    (hp : parts.map (fun p => (p.1, ev E p.2)) = vs.map (fun p => (p.1, some p.2))) (hf : Instr.fill (fun i => some (i * s, s)) zv.cells vs = some cs.toArray) : Pu c E (.build T parts.toArray) ty (.agg cs.toArray) := fun a w ha _ _ _ _ => by
  have hparts : parts.map (fun p => (p.1, a.eval p.2)) = vs := by
    clear hf
    induction parts generalizing vs with
    | nil => cases vs <;> simp_all
    | cons p parts ih =>
      cases vs with
      | nil => simp at hp
      | cons q vs =>
        simp only [List.map_cons, List.cons.injEq, Prod.mk.injEq] at hp ⊢
        obtain ⟨⟨h1, h2⟩, h3⟩ := hp
        refine ⟨?_, ih vs h3⟩
        rw [ha.ev h2, h1]
  simp only [execOp, List.map_toArray]
  simp [Instr.build, hT, hz, hparts, hs, hf]
theorem Pu.indexK {n e s : Nat} {kd : IntKind} {m : Int} {cs : List Value} (vs : List Value) (hT : ∀ w, (underlying T).run c.P w = .ok (.array n e) w) (hs : ∀ w, (sizeOf e).run c.P w = .ok s w) (hag : ∀ w, (isAgg e).run c.P w = .ok true w)
    (hx : ev E x = some (.agg cs.toArray)) (hy : ev E y = some (.int kd m)) (h0 : 0 ≤ m) (h1 : m < n) (hv : (cs.drop (m.toNat * s)).take s = vs) : Pu c E (.index T x y) ty (.agg vs.toArray) := fun a w ha _ _ _ _ => by
  subst hv
  simp [execOp, ha.ev hx, ha.ev hy, Instr.index, asIntOf, hT, hs, h0, h1, part, hag]
theorem Pu.indexK1 {n e s : Nat} {kd : IntKind} {m : Int} {cs : List Value} (hT : ∀ w, (underlying T).run c.P w = .ok (.array n e) w) (hs : ∀ w, (sizeOf e).run c.P w = .ok s w) (hag : ∀ w, (isAgg e).run c.P w = .ok false w)
    (hx : ev E x = some (.agg cs.toArray)) (hy : ev E y = some (.int kd m)) (h0 : 0 ≤ m) (h1 : m < n) (hv : cs[m.toNat * s]? = some v) : Pu c E (.index T x y) ty v := fun a w ha _ _ _ _ => by
  simp [execOp, ha.ev hx, ha.ev hy, Instr.index, asIntOf, hT, hs, h0, h1, part, hag, hv]

/-! ### Structs of integers, by the list -/
end
end Go.LK
