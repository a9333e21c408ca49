/-
  Arrays as values: built, and looked at by an index that is known; structs of integers by their list; bits of integers.
-/
import Derived.Test.YtnkhmbbnabejhaaLk23
namespace Go.LK
open Go Go.RowKit

section
variable {c : Cx} {k : List It} {E : Env} {L : List Sp} {ty : TypeId} {v : Value} {x y : Operand} {T : TypeId}
theorem Pu.buildA {parts : List (Nat × Operand)} {n e s : Nat} (vs : List (Nat × Value)) (cs : List Value) {zv : Value} (hT : ∀ w, (underlying T).run c.P w = .ok (.array n e) w) (hz : ∀ w, (zeroValue T).run c.P w = .ok zv w) (hs : ∀ w, (sizeOf e).run c.P w = .ok s w)
    (hp : parts.map (fun p => (p.1, ev E p.2)) = vs.map (fun p => (p.1, some p.2))) (hf : Instr.fill (fun i => some (i * s, s)) zv.cells vs = some cs.toArray) : Pu c E (.build T parts.toArray) ty (.agg cs.toArray) := fun a w ha _ _ _ _ => by
  have hparts : parts.map (fun p => (p.1, a.eval p.2)) = vs := by
    clear hf
    induction parts generalizing vs with
    | nil => cases vs <;> simp_all
    | cons p parts ih =>
      cases vs with
      | nil => simp at hp
      | cons q vs =>
        simp only [List.map_cons, List.cons.injEq, Prod.mk.injEq] at hp ⊢
        obtain ⟨⟨h1, h2⟩, h3⟩ := hp
        refine ⟨?_, ih vs h3⟩
        rw [ha.ev h2, h1]
  simp only [execOp, List.map_toArray]
  simp [Instr.build, hT, hz, hparts, hs, hf]
theorem Pu.indexK {n e s : Nat} {kd : IntKind} {m : Int} {cs : List Value} (vs : List Value) (hT : ∀ w, (underlying T).run c.P w = .ok (.array n e) w) (hs : ∀ w, (sizeOf e).run c.P w = .ok s w) (hag : ∀ w, (isAgg e).run c.P w = .ok true w)
    (hx : ev E x = some (.agg cs.toArray)) (hy : ev E y = some (.int kd m)) (h0 : 0 ≤ m) (h1 : m < n) (hv : (cs.drop (m.toNat * s)).take s = vs) : Pu c E (.index T x y) ty (.agg vs.toArray) := fun a w ha _ _ _ _ => by
  subst hv
  simp [execOp, ha.ev hx, ha.ev hy, Instr.index, asIntOf, hT, hs, h0, h1, part, hag]
theorem Pu.indexK1 {n e s : Nat} {kd : IntKind} {m : Int} {cs : List Value} (hT : ∀ w, (underlying T).run c.P w = .ok (.array n e) w) (hs : ∀ w, (sizeOf e).run c.P w = .ok s w) (hag : ∀ w, (isAgg e).run c.P w = .ok false w)
    (hx : ev E x = some (.agg cs.toArray)) (hy : ev E y = some (.int kd m)) (h0 : 0 ≤ m) (h1 : m < n) (hv : cs[m.toNat * s]? = some v) : Pu c E (.index T x y) ty v := fun a w ha _ _ _ _ => by
  simp [execOp, ha.ev hx, ha.ev hy, Instr.index, asIntOf, hT, hs, h0, h1, part, hag, hv]

/-! ### Structs of integers, by the list -/
def vI (n : Int) : Value := .int .i64 n
def vS (l : List UInt8) : Value := str l
theorem vI_one (l : List Int) : ((l.map vI).all Value.oneCell') = true := by
  rw [List.all_eq_true]
  intro v hv
  obtain ⟨n, _, rfl⟩ := List.mem_map.1 hv
  rfl
theorem Cut.aggL {P : Program} {T : TypeId} {s : Nat} {l : List Int} (h : ∀ w, (isAgg T).run P w = .ok true w) (hs : ∀ w, (sizeOf T).run P w = .ok s w) (hl : l.length = s) : Cut P T (l.map vI) 0 (.agg (l.map vI).toArray) :=
  .inr ⟨s, l.map vI, h, hs, by rw [List.drop_zero, List.take_of_length_le (by rw [List.length_map]; omega)], by rw [List.length_map]; exact hl, rfl⟩
theorem Lo.storeL (i : Nat) {g sz : Nat} {t : TypeId} {cs : List Value} (l : List Int) (hx : ev E x = some (.pointer (some ⟨g, 0, none⟩))) (hy : ev E y = some (.agg (l.map vI).toArray)) (hi : L[i]? = some (var g cs t)) (hs : ∀ w, (sizeOf T).run c.P w = .ok sz w)
    (hl : l.length = sz) (hc : cs.length = sz) : Lo c E L (.store T x y) ty fun _ L' => L' = L.set i (var g (l.map vI) t) :=
  Lo.store i (vs := l.map vI) (l.map vI) hx hy hi hs rfl (by rw [List.length_map]; exact hl) (vI_one l) (by
    rw [List.take_zero, List.nil_append, List.drop_of_length_le (by rw [List.length_map]; omega), List.append_nil]) (by rw [Nat.ble_eq]; omega)
theorem Lo.boxL (l : List Int) (hx : ev E x = some (.agg (l.map vI).toArray)) : Lo c E L (.box T x) ty fun v L' => ∃ g, v = .pointer (some ⟨g, 0, none⟩) ∧ L' = var g (l.map vI) T :: L := Lo.box (l.map vI) hx rfl
theorem Pu.eqlL {fs : Array Field} (as bs : List Int) (hT : c.P.underlying T = some (.struct fs)) (hp : c.P.stoodInHeld T = false) (hg : c.P.eqGuardType c.P.depth T = false) (hf : FInt c.P 0 fs.toList) (ha : as.length = fs.size) (hb : bs.length = fs.size)
    (hx : ev E x = some (.agg (as.map vI).toArray)) (hy : ev E y = some (.agg (bs.map vI).toArray)) : Pu c E (.binOp .eql T x y T) ty (.bool (decide (as = bs))) := Pu.eqlI as bs hT hp hg hf ha hb hx hy
theorem Pu.neqL {fs : Array Field} (as bs : List Int) (hT : c.P.underlying T = some (.struct fs)) (hp : c.P.stoodInHeld T = false) (hg : c.P.eqGuardType c.P.depth T = false) (hf : FInt c.P 0 fs.toList) (ha : as.length = fs.size) (hb : bs.length = fs.size)
    (hx : ev E x = some (.agg (as.map vI).toArray)) (hy : ev E y = some (.agg (bs.map vI).toArray)) : Pu c E (.binOp .neq T x y T) ty (.bool (!decide (as = bs))) := Pu.neqI as bs hT hp hg hf ha hb hx hy
end
end Go.LK
