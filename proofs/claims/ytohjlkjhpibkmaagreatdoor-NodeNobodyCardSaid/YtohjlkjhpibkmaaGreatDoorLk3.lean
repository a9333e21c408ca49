/-
  What an operation yields (quiet), or does (loud).
-/
import Derived.Test.YtohjlkjhpibkmaaGreatDoorLk2
namespace Go.LK
open Go Go.RowKit

def Qt (c : Cx) (E : Env) (L : List Sp) (o : Op) (ty : TypeId) (v : Value) : Prop :=
  c.Ok → ∀ a w, Has c.n a E → St c.w0 c.M L w → ∀ d pos af g, (execOp a.eval ⟨d, o, ty, pos, af, g⟩).run c.P w = .ok (.value v) w

/-- Pure: whatever the world. -/
def Pu (c : Cx) (E : Env) (o : Op) (ty : TypeId) (v : Value) : Prop :=
  ∀ a w, Has c.n a E → ∀ d pos af g, (execOp a.eval ⟨d, o, ty, pos, af, g⟩).run c.P w = .ok (.value v) w
theorem Pu.qt {c : Cx} {E : Env} {L : List Sp} {o : Op} {ty : TypeId} {v : Value} (h : Pu c E o ty v) : Qt c E L o ty v := fun _ a w ha _ => h a w ha

def Lo (c : Cx) (E : Env) (L : List Sp) (o : Op) (ty : TypeId) (R : Value → List Sp → Prop) : Prop :=
  c.Ok → ∀ a w, Has c.n a E → St c.w0 c.M L w → ∀ d pos af g (K : Act → World → Prop) (Q : Exit → Act → World → Prop),
    (∀ v L' w', R v L' → St c.w0 c.M L' w' → K (a.put d v) w') → Oper.wp c.P ⟨d, o, ty, pos, af, g⟩ a w K Q

section
variable {c : Cx} {k : List It} {E : Env} {L : List Sp} {ops : Array Oper} {rest : List Oper} {o : Op} {ty : TypeId} {d : Nat} {pos : String} {af : Array Edge} {v : Value}

theorem wp_of_run {P : Program} {o : Oper} {a : Act} {w : World} {v : Value} {K : Act → World → Prop} {Q : Exit → Act → World → Prop} (h : (execOp a.eval o).run P w = .ok (.value v) w) (hk : K (a.put o.dst v) w) : o.wp P a w K Q := by
  unfold Oper.wp; rw [h]; exact hk

theorem O.q (hq : Qt c E L o ty v) (hd : Nat.blt d c.n = true) (h : O c ops rest k ((d, v) :: E) L) : O c ops (⟨some d, o, ty, pos, af, none⟩ :: rest) k E L := fun ok a w ha hs =>
  wpList_plain rfl fun _ hK => wp_of_run (hq ok a w ha hs _ _ _ _) (hK _ _ (h ok _ w (ha.put v hd) hs))

theorem O.p (hq : Pu c E o ty v) (hd : Nat.blt d c.n = true) (h : O c ops rest k ((d, v) :: E) L) : O c ops (⟨some d, o, ty, pos, af, none⟩ :: rest) k E L := O.q hq.qt hd h

theorem O.l {R : Value → List Sp → Prop} (hl : Lo c E L o ty R) (hd : Nat.blt d c.n = true) (h : ∀ v L', R v L' → O c ops rest k ((d, v) :: E) L') : O c ops (⟨some d, o, ty, pos, af, none⟩ :: rest) k E L := fun ok a w ha hs =>
  wpList_plain rfl fun _ hK => hl ok a w ha hs _ _ _ _ _ _ fun v L' w' hR hs' => hK _ _ (h v L' hR ok _ w' (ha.put v hd) hs')

theorem O.l0 {R : Value → List Sp → Prop} (hl : Lo c E L o ty R) (h : ∀ v L', R v L' → O c ops rest k E L') : O c ops (⟨none, o, ty, pos, af, none⟩ :: rest) k E L := fun ok a w ha hs =>
  wpList_plain rfl fun _ hK => hl ok a w ha hs _ _ _ _ _ _ fun v L' w' hR hs' => hK _ _ (h v L' hR ok _ w' ha hs')

/-! ### Guards -/
theorem wanted_yes {a : Act} {n : Nat} {o : Oper} {j t : Nat} {want : Bool} (ha : Has n a E) (hg : o.guard = some (j, want)) (hj : (ops[j]?).bind (·.dst) = some t) (ht : look E t = some (.bool want)) (hn : Nat.blt t n = true) :
    Region.wanted o (yielded ops a.tmps) = true := by
  have h1 := ha.at_ t _ ht
  have ht' : t < a.tmps.size := by rw [ha.size]; exact Nat.le_of_ble_eq_true hn
  simp only [Region.wanted, hg, yielded, hj, Option.bind_some]
  rw [Array.getD_eq_getD_getElem?, Array.getElem?_eq_getElem ht'] at h1
  rw [Array.getElem?_eq_getElem ht']
  simp only [Option.getD_some] at h1
  rw [h1]
  simp

def boolOf : Value → Option Bool
  | .bool b => some b
  | _ => none

theorem wanted_no {a : Act} {n : Nat} {o : Oper} {j t : Nat} {want : Bool} {u : Value} (ha : Has n a E) (hg : o.guard = some (j, want)) (hj : (ops[j]?).bind (·.dst) = some t) (ht : look E t = some u) (hu : boolOf u ≠ some want) (hn : Nat.blt t n = true) :
    Region.wanted o (yielded ops a.tmps) = false := by
  have h1 := ha.at_ t _ ht
  have ht' : t < a.tmps.size := by rw [ha.size]; exact Nat.le_of_ble_eq_true hn
  simp only [Region.wanted, hg, yielded, hj, Option.bind_some]
  rw [Array.getD_eq_getD_getElem?, Array.getElem?_eq_getElem ht'] at h1
  rw [Array.getElem?_eq_getElem ht']
  simp only [Option.getD_some] at h1
  rw [h1]
  cases u <;> simp_all [boolOf]

theorem no_bool {b want : Bool} (h : b ≠ want) : boolOf (.bool b) ≠ some want := fun e => h (by simpa [boolOf] using e)

/-! ### Quiet operations -/
section
variable {x y z : Operand} {T : TypeId}

theorem Pu.move (hx : ev E x = some v) : Pu c E (.move x) ty v := fun a w ha _ _ _ _ => by simp [execOp, ha.ev hx]
theorem Pu.assign (hx : ev E x = some v) : Pu c E (.assign x) ty v := fun a w ha _ _ _ _ => by simp [execOp, ha.ev hx]
/-- Short words for what comes up most. -/
theorem O.m {c : Cx} {k : List It} {E : Env} {L : List Sp} {ops : Array Oper} {rest : List Oper} {x : Operand} {v : Value} {ty : TypeId} {d : Nat} {pos : String} {af : Array Edge} (hx : ev E x = some v) (hd : Nat.blt d c.n = true) (h : O c ops rest k ((d, v) :: E) L) : O c ops (⟨some d, .move x, ty, pos, af, none⟩ :: rest) k E L := O.p (Pu.move hx) hd h
theorem O.a {c : Cx} {k : List It} {E : Env} {L : List Sp} {ops : Array Oper} {rest : List Oper} {x : Operand} {v : Value} {ty : TypeId} {d : Nat} {pos : String} {af : Array Edge} (hx : ev E x = some v) (hd : Nat.blt d c.n = true) (h : O c ops rest k ((d, v) :: E) L) : O c ops (⟨some d, .assign x, ty, pos, af, none⟩ :: rest) k E L := O.p (Pu.assign hx) hd h
theorem Pu.pickT {b : Bool} (hx : ev E x = some (.bool b)) (hb : b = true) (hy : ev E y = some v) : Pu c E (.pick x y z) ty v := fun a w ha _ _ _ _ => by simp [execOp, ha.ev hx, ha.ev hy, hb, asBool]
theorem Pu.pickF {b : Bool} (hx : ev E x = some (.bool b)) (hb : b = false) (hz : ev E z = some v) : Pu c E (.pick x y z) ty v := fun a w ha _ _ _ _ => by simp [execOp, ha.ev hx, ha.ev hz, hb, asBool]
theorem Pu.nilCheck {ad : Addr} (hx : ev E x = some (.pointer (some ad))) : Pu c E (.nilCheck x) ty (.pointer (some ad)) := fun a w ha _ _ _ _ => by simp [execOp, ha.ev hx]
theorem Pu.not {b : Bool} (hx : ev E x = some (.bool b)) : Pu c E (.unOp .not T x) ty (.bool !b) := fun a w ha _ _ _ _ => by simp [execOp, ha.ev hx, Op.unary]
theorem Pu.extract {vs : List Value} {i : Nat} (hx : ev E x = some (.tuple vs.toArray)) (hi : vs[i]? = some v) : Pu c E (.extract x i) ty v := fun a w ha _ _ _ _ => by simp [execOp, ha.ev hx, Instr.extract, hi]
theorem Has.evs {n : Nat} {a : Act} (ha : Has n a E) : ∀ {xs : List Operand} {vs : List Value}, xs.map (LK.ev E) = vs.map some → xs.map a.eval = vs
  | [], [], _ => rfl
  | [], _ :: _, h => by simp at h
  | _ :: _, [], h => by simp at h
  | x :: xs, v :: vs, h => by
    simp only [List.map_cons, List.cons.injEq] at h ⊢
    exact ⟨ha.ev h.1, ha.evs h.2⟩
theorem Pu.makeFunc {fn : Fn} {cap : List Operand} (vs : List Value) (hc : cap.map (ev E) = vs.map some) : Pu c E (.makeFunc fn #[] cap.toArray) ty (.func fn #[] vs.toArray) := fun a w ha _ _ _ _ => by
  simp [execOp, Instr.makeFunc, ha.evs hc]

section
variable {kd : IntKind} {m n : Int}
theorem Pu.add (hx : ev E x = some (.int kd m)) (hy : ev E y = some (.int kd n)) : Pu c E (.binOp .add T x y T) ty (.int kd (kd.wrap (m + n))) := fun a w ha _ _ _ _ => by simp [execOp, eqGuard, ha.ev hx, ha.ev hy, binOp, Op.intArith]
theorem Pu.sub (hx : ev E x = some (.int kd m)) (hy : ev E y = some (.int kd n)) : Pu c E (.binOp .sub T x y T) ty (.int kd (kd.wrap (m - n))) := fun a w ha _ _ _ _ => by simp [execOp, eqGuard, ha.ev hx, ha.ev hy, binOp, Op.intArith]
theorem Pu.mul (hx : ev E x = some (.int kd m)) (hy : ev E y = some (.int kd n)) : Pu c E (.binOp .mul T x y T) ty (.int kd (kd.wrap (m * n))) := fun a w ha _ _ _ _ => by simp [execOp, eqGuard, ha.ev hx, ha.ev hy, binOp, Op.intArith]
theorem Pu.lss (hx : ev E x = some (.int kd m)) (hy : ev E y = some (.int kd n)) : Pu c E (.binOp .lss T x y T) ty (.bool (decide (m < n))) := fun a w ha _ _ _ _ => by simp [execOp, eqGuard, ha.ev hx, ha.ev hy, binOp, Op.intCmp]
theorem Pu.leq (hx : ev E x = some (.int kd m)) (hy : ev E y = some (.int kd n)) : Pu c E (.binOp .leq T x y T) ty (.bool (decide (m ≤ n))) := fun a w ha _ _ _ _ => by simp [execOp, eqGuard, ha.ev hx, ha.ev hy, binOp, Op.intCmp]
theorem Pu.gtr (hx : ev E x = some (.int kd m)) (hy : ev E y = some (.int kd n)) : Pu c E (.binOp .gtr T x y T) ty (.bool (decide (n < m))) := fun a w ha _ _ _ _ => by simp [execOp, eqGuard, ha.ev hx, ha.ev hy, binOp, Op.intCmp]
theorem Pu.geq (hx : ev E x = some (.int kd m)) (hy : ev E y = some (.int kd n)) : Pu c E (.binOp .geq T x y T) ty (.bool (decide (n ≤ m))) := fun a w ha _ _ _ _ => by simp [execOp, eqGuard, ha.ev hx, ha.ev hy, binOp, Op.intCmp]
theorem Pu.eql (hx : ev E x = some (.int kd m)) (hy : ev E y = some (.int kd n)) : Pu c E (.binOp .eql T x y T) ty (.bool (decide (m = n))) := fun a w ha _ _ _ _ => by simp [execOp, eqGuard, ha.ev hx, ha.ev hy, binOp, Op.intCmp]; rfl
theorem Pu.neq (hx : ev E x = some (.int kd m)) (hy : ev E y = some (.int kd n)) : Pu c E (.binOp .neq T x y T) ty (.bool (decide (m ≠ n))) := fun a w ha _ _ _ _ => by
  simp [execOp, eqGuard, ha.ev hx, ha.ev hy, binOp, Op.intCmp]; rfl
end

theorem in_i64 {m : Int} (h : -9223372036854775808 ≤ m ∧ m ≤ 9223372036854775807) : IntKind.i64.wrap m = m := by rw [IntKind.wrap_i64]; omega
section
variable {m n : Int}
theorem Pu.add' (hx : ev E x = some (.int .i64 m)) (hy : ev E y = some (.int .i64 n)) (h : -9223372036854775808 ≤ m + n ∧ m + n ≤ 9223372036854775807) : Pu c E (.binOp .add T x y T) ty (.int .i64 (m + n)) := by
  have := Pu.add (c := c) (T := T) (ty := ty) hx hy; rwa [in_i64 h] at this
theorem Pu.sub' (hx : ev E x = some (.int .i64 m)) (hy : ev E y = some (.int .i64 n)) (h : -9223372036854775808 ≤ m - n ∧ m - n ≤ 9223372036854775807) : Pu c E (.binOp .sub T x y T) ty (.int .i64 (m - n)) := by
  have := Pu.sub (c := c) (T := T) (ty := ty) hx hy; rwa [in_i64 h] at this
end

/-! Addresses -/
theorem Pu.fieldAddr {fs : Array Field} {f : Field} {g off i s off' : Nat} (hT : ∀ w, (underlying T).run c.P w = .ok (.struct fs) w) (hf : fs[i]? = some f) (hs : ∀ w, (sizeOf f.type).run c.P w = .ok s w) (hs0 : Nat.blt 0 s = true)
    (hx : ev E x = some (.pointer (some ⟨g, off, none⟩))) (ho : off + f.offset = off') : Pu c E (.fieldAddr T x i) ty (.pointer (some ⟨g, off', none⟩)) := fun a w ha _ _ _ _ => by
  have h0 : s ≠ 0 := fun e => by subst e; simp [Nat.blt] at hs0
  subst ho
  have hadd : Addr.add ⟨g, off, none⟩ f.offset = ⟨g, off + f.offset, none⟩ := by unfold Addr.add; split <;> simp_all
  simp [execOp, ha.ev hx, Instr.fieldAt, hT, hf, Instr.sureAddr, fieldPlace, hs, h0, hadd]

theorem Pu.indexAddr {e g off s : Nat} {len cap : Nat} {m : Int} (hT : ∀ w, (underlying T).run c.P w = .ok (.slice e) w) (hs : ∀ w, (sizeOf e).run c.P w = .ok s w)
    (hx : ev E x = some (.slice (some ⟨g, off, none⟩) len cap)) (hy : ev E y = some (.int .i64 m)) (h0 : 0 ≤ m) (h1 : m < len) : Pu c E (.indexAddr T x y) ty (.pointer (some ⟨g, off + m.toNat * s, none⟩)) := fun a w ha _ _ _ _ => by
  have hadd : Addr.add ⟨g, off, none⟩ (m.toNat * s) = ⟨g, off + m.toNat * s, none⟩ := by unfold Addr.add; split <;> simp_all
  simp [execOp, ha.ev hx, ha.ev hy, Instr.indexAt, asIntOf, hT, hs, h0, h1, hadd]

theorem Pu.indexAddrA {len e g off s : Nat} {m : Int} (hT : ∀ w, (underlying T).run c.P w = .ok (.array len e) w) (hs : ∀ w, (sizeOf e).run c.P w = .ok s w)
    (hx : ev E x = some (.pointer (some ⟨g, off, none⟩))) (hy : ev E y = some (.int .i64 m)) (h0 : 0 ≤ m) (h1 : m < len) : Pu c E (.indexAddr T x y) ty (.pointer (some ⟨g, off + m.toNat * s, none⟩)) := fun a w ha _ _ _ _ => by
  have hadd : Addr.add ⟨g, off, none⟩ (m.toNat * s) = ⟨g, off + m.toNat * s, none⟩ := by unfold Addr.add; split <;> simp_all
  simp [execOp, ha.ev hx, ha.ev hy, Instr.indexAt, Instr.sureAddr, asIntOf, hT, hs, h0, h1, hadd]

/-! Calls of builtins -/
theorem Pu.len {A : Option Addr} {e n cap : Nat} (hT : ∀ w, (underlying T).run c.P w = .ok (.slice e) w) (hx : ev E x = some (.slice A n cap)) :
    Pu c E (.call { callee := .builtin .len, args := #[x], argTypes := #[T] }) ty (.int .i64 n) := fun a w ha _ _ _ _ => by
  simp [execOp, resolve, invoke, builtin, Builtin.len_, ha.ev hx, hT, goInt]
theorem Pu.max {m n : Int} (hx : ev E x = some (.int .i64 m)) (hy : ev E y = some (.int .i64 n)) {ts : Array TypeId} :
    Pu c E (.call { callee := .builtin .max, args := #[x, y], argTypes := ts }) ty (.int .i64 (if n > m then n else m)) := fun a w ha _ _ _ _ => by
  simp [execOp, resolve, invoke, builtin, Builtin.max_, Builtin.max2, ha.ev hx, ha.ev hy]
theorem Pu.min {m n : Int} (hx : ev E x = some (.int .i64 m)) (hy : ev E y = some (.int .i64 n)) {ts : Array TypeId} :
    Pu c E (.call { callee := .builtin .min, args := #[x, y], argTypes := ts }) ty (.int .i64 (if n < m then n else m)) := fun a w ha _ _ _ _ => by
  simp [execOp, resolve, invoke, builtin, Builtin.min_, Builtin.min2, ha.ev hx, ha.ev hy]

/-! ### Memory -/
/-- The cells of T at place off among these cells, as a value. -/
def Cut (P : Program) (T : TypeId) (cs : List Value) (off : Nat) (v : Value) : Prop :=
  ((∀ w, (isAgg T).run P w = .ok false w) ∧ cs[off]? = some v) ∨
  (∃ s vs, (∀ w, (isAgg T).run P w = .ok true w) ∧ (∀ w, (sizeOf T).run P w = .ok s w) ∧ (cs.drop off).take s = vs ∧ vs.length = s ∧ v = .agg vs.toArray)

theorem Cut.one {P : Program} {T : TypeId} {cs : List Value} {off : Nat} {v : Value} (h : ∀ w, (isAgg T).run P w = .ok false w) (hc : cs[off]? = some v) : Cut P T cs off v := .inl ⟨h, hc⟩
theorem Cut.agg {P : Program} {T : TypeId} {cs : List Value} {off s : Nat} (vs : List Value) (h : ∀ w, (isAgg T).run P w = .ok true w) (hs : ∀ w, (sizeOf T).run P w = .ok s w) (hc : (cs.drop off).take s = vs) (hl : vs.length = s) : Cut P T cs off (.agg vs.toArray) :=
  .inr ⟨s, vs, h, hs, hc, hl, rfl⟩

theorem run_cut {P : Program} {T : TypeId} {cs : List Value} {off : Nat} {v : Value} {w : World} {g o : Nat} (hc : Cut P T cs off v) (h : ∀ j u, cs[j]? = some u → w.cell? ⟨g, o + j, none⟩ = some u) : (loadVar T ⟨g, o + off, none⟩).run P w = .ok v w := by
  rcases hc with ⟨h1, h2⟩ | ⟨s, vs, h1, h2, h3, h4, rfl⟩
  · have := h off v h2
    simp only [loadVar, Sem.run_bind, h1, Result.andThen_ok]
    simp [load, Sem.run, this]
  · have hl : (loadCells ⟨g, o + off, none⟩ vs.length).run P w = .ok vs.toArray w := run_loadCells_list (P := P) w ⟨g, o + off, none⟩ vs (fun j u hj => by
      have hadd : (⟨g, o + off, none⟩ : Addr).add j = ⟨g, o + (off + j), none⟩ := by unfold Addr.add; split <;> simp_all [Nat.add_assoc]
      rw [hadd]
      refine h _ _ ?_
      rw [← h3, List.getElem?_take] at hj
      split at hj
      · rwa [List.getElem?_drop] at hj
      · cases hj)
    rw [h4] at hl
    simp [loadVar, h1, h2, hl]

section
variable {x y : Operand} {T : TypeId}
theorem Qt.load (i : Nat) {g off : Nat} {cs : List Value} {t : TypeId} (hx : ev E x = some (.pointer (some ⟨g, off, none⟩))) (hi : L[i]? = some (var g cs t)) (hc : Cut c.P T cs off v) : Qt c E L (.load T x) ty v := fun _ a w ha hs _ _ _ _ => by
  have hh : w.heap[g]? = some (.cells cs.toArray t (0, 0)) := hs.at_ _ (List.mem_of_getElem? hi)
  have := run_cut (w := w) (g := g) (o := 0) hc (fun j u hj => by rw [Nat.zero_add, cell_of_row w g j _ t _ hh]; simpa using hj)
  rw [Nat.zero_add] at this
  simp [execOp, ha.ev hx, Instr.loadAt, Instr.sureAddr, this]
end
end
end
end Go.LK
