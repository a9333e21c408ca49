/-
  Several texts in one: LkH, LkC.
-/
import Derived.Test.YtnhfgnnpbipcnaaGreatDoorLkN
import Derived.Sort.Grow
import Derived.Deep.Draws
import Derived.Lib.ConvBytes
import Derived.Lib.LaidTab
import Derived.Lib.ItoaNum
import Derived.Lib.ParseIntBTie
import Derived.Lib.IndexMore
namespace Go.LK
open Go Go.RowKit

/-- A string, by its bytes. -/
abbrev str (l : List UInt8) : Value := .string ⟨l.toArray⟩
theorem str_of (s : ByteArray) : (.string s : Value) = str s.data.toList := by
  obtain ⟨⟨l⟩⟩ := s
  rfl
theorem size_mk (l : List UInt8) : (ByteArray.mk l.toArray).size = l.length := by simp [ByteArray.size]

section
variable {c : Cx} {E : Env} {x y z : Operand} {T ty : TypeId} {l m : List UInt8}
theorem Pu.sLen (hT : ∀ w, (underlying T).run c.P w = .ok .string w) (hx : ev E x = some (str l)) : Pu c E (.call { callee := .builtin .len, args := #[x], argTypes := #[T] }) ty (.int .i64 l.length) := by
  have := Pu.lenS (c := c) (ty := ty) hT hx
  rwa [size_mk] at this
theorem Pu.sEql (hx : ev E x = some (str l)) (hy : ev E y = some (str m)) : Pu c E (.binOp .eql T x y T) ty (.bool (l == m)) := fun a w ha _ _ _ _ => by
  simp [execOp, eqGuard, ha.ev hx, ha.ev hy, binOp, Op.stringOp]
theorem Pu.sNeq (hx : ev E x = some (str l)) (hy : ev E y = some (str m)) : Pu c E (.binOp .neq T x y T) ty (.bool !(l == m)) := fun a w ha _ _ _ _ => by
  simp [execOp, eqGuard, ha.ev hx, ha.ev hy, binOp, Op.stringOp]
theorem append_mk (l m : List UInt8) : (ByteArray.mk l.toArray ++ ByteArray.mk m.toArray) = ByteArray.mk (l ++ m).toArray := by
  apply ByteArray.ext
  simp [ByteArray.data_append]
theorem Pu.sAdd (hx : ev E x = some (str l)) (hy : ev E y = some (str m)) (hb : l.length + m.length ≤ 9223372036854775807) : Pu c E (.binOp .add T x y T) ty (str (l ++ m)) := fun a w ha _ _ _ _ => by
  have h : (((ByteArray.mk l.toArray).size : Int) + ((ByteArray.mk m.toArray).size : Int)) ≤ 9223372036854775807 := by rw [size_mk, size_mk]; omega
  simp [execOp, eqGuard, ha.ev hx, ha.ev hy, binOp, Op.stringOp, append_mk]
  exact h
theorem Pu.sIdx {i : Int} {b : UInt8} (hT : ∀ w, (underlying T).run c.P w = .ok .string w) (hx : ev E x = some (str l)) (hy : ev E y = some (.int .i64 i)) (h0 : 0 ≤ i) (hb : l[i.toNat]? = some b) : Pu c E (.index T x y) ty (.int .u8 b.toNat) := fun a w ha _ _ _ _ => by
  have h1 : (ByteArray.mk l.toArray)[i.toNat]? = some b := by
    obtain ⟨hlt, rfl⟩ := List.getElem?_eq_some_iff.1 hb
    rw [getElem?_pos _ _ (by rw [size_mk]; exact hlt)]
    rfl
  simp [execOp, ha.ev hx, ha.ev hy, Instr.index, asIntOf, hT, h0, h1]
theorem extract_mk' (l : List UInt8) (a b : Nat) : (ByteArray.mk l.toArray).extract a b = ByteArray.mk ((l.drop a).take (b - a)).toArray := by
  rw [ByteArray.extract_mk]
theorem Pu.sCut {i j : Int} (hT : ∀ w, (underlying T).run c.P w = .ok .string w) (hx : ev E x = some (str l)) (hy : ev E y = some (.int .i64 i)) (hz : ev E z = some (.int .i64 j)) (h0 : 0 ≤ i) (h1 : i ≤ j) (h2 : j ≤ l.length) :
    Pu c E (.slice T x (some y) (some z) none) ty (str ((l.drop i.toNat).take (j.toNat - i.toNat))) := fun a w ha _ _ _ _ => by
  have h4 : i ≤ Max.max j 0 := by omega
  simp [execOp, ha.ev hx, ha.ev hy, ha.ev hz, Instr.sliceAt, Instr.slice, Instr.sliceBounds, Instr.sliceBound, asIntOf, hT, size_mk, h0, h2, h4, show (0 : Int) ≤ j from by omega, extract_mk']
theorem Pu.sHead {j : Int} (hT : ∀ w, (underlying T).run c.P w = .ok .string w) (hx : ev E x = some (str l)) (hz : ev E z = some (.int .i64 j)) (h0 : 0 ≤ j) (h2 : j ≤ l.length) :
    Pu c E (.slice T x none (some z) none) ty (str (l.take j.toNat)) := fun a w ha _ _ _ _ => by
  simp [execOp, ha.ev hx, ha.ev hz, Instr.sliceAt, Instr.slice, Instr.sliceBounds, Instr.sliceBound, asIntOf, hT, size_mk, h0, h2, extract_mk']
theorem Pu.sTail {i : Int} (hT : ∀ w, (underlying T).run c.P w = .ok .string w) (hx : ev E x = some (str l)) (hy : ev E y = some (.int .i64 i)) (h0 : 0 ≤ i) (h2 : i ≤ l.length) :
    Pu c E (.slice T x (some y) none none) ty (str (l.drop i.toNat)) := fun a w ha _ _ _ _ => by
  simp [execOp, ha.ev hx, ha.ev hy, Instr.sliceAt, Instr.slice, Instr.sliceBounds, Instr.sliceBound, asIntOf, hT, size_mk, h0, h2, extract_mk', List.take_of_length_le]
theorem Pu.conv {S D : TypeId} {k k' : IntKind} {n : Int} {ds : TypeDesc} (hS : ∀ w, (underlying S).run c.P w = .ok ds w) (hD : ∀ w, (underlying D).run c.P w = .ok (.int k) w) (hx : ev E x = some (.int k' n)) : Pu c E (.convert S D x) ty (.int k (k.wrap n)) := fun a w ha _ _ _ _ => by
  simp [execOp, ha.ev hx, convert, hS, hD, Conv.intToInt]
end

section
variable {c : Cx} {E : Env} {x y : Operand} {T ty : TypeId} {kd : IntKind} {m n : Int}
theorem Pu.quo (hx : ev E x = some (.int kd m)) (hy : ev E y = some (.int kd n)) (h : ¬ n = 0) : Pu c E (.binOp .quo T x y T) ty (.int kd (kd.wrap (m.tdiv n))) := fun a w ha _ _ _ _ => by simp [execOp, eqGuard, ha.ev hx, ha.ev hy, binOp, Op.intDiv, h]
theorem Pu.rem (hx : ev E x = some (.int kd m)) (hy : ev E y = some (.int kd n)) (h : ¬ n = 0) : Pu c E (.binOp .rem T x y T) ty (.int kd (m.tmod n)) := fun a w ha _ _ _ _ => by simp [execOp, eqGuard, ha.ev hx, ha.ev hy, binOp, Op.intDiv, h]
theorem Pu.mul' (hx : ev E x = some (.int .i64 m)) (hy : ev E y = some (.int .i64 n)) (h : -9223372036854775808 ≤ m * n ∧ m * n ≤ 9223372036854775807) : Pu c E (.binOp .mul T x y T) ty (.int .i64 (m * n)) := by
  have := Pu.mul (c := c) (T := T) (ty := ty) hx hy; rwa [in_i64 h] at this
theorem Pu.neg (hx : ev E x = some (.int kd m)) : Pu c E (.unOp .neg T x) ty (.int kd (kd.wrap (0 - m))) := fun a w ha _ _ _ _ => by simp [execOp, ha.ev hx, Op.unary, Op.intArith]
end

/-- A cell that may be read. -/
def gl (g : Nat) (v : Value) : Sp where
  foot := [g]
  holds w := w.cell? ⟨g, 0, none⟩ = some v
  lt w h := by
    intro k hk
    simp at hk; subst hk
    exact cell_lt h
  loc w w' h hh := by
    rw [← hh]; exact cell_of_block (h g (by simp))

/-- A contract of the library's in this logic: what it lays is new, and nothing else turns. -/
theorem Tri.lib {P : Program} {f : FuncId} {args : Array Value} {Ro : List Sp} {v : Value} (h : ∀ w, (∀ A ∈ Ro, A.holds w) → Calls P f args w fun e w' => e = .returned v ∧ Frame w [] w') : Tri P f args Ro [] (fun u L' => u = v ∧ L' = []) := fun w hro hst =>
  (h w fun A hA => (hro A hA).1).mono fun e w' ⟨he, hf⟩ => ⟨v, [], he, ⟨rfl, rfl⟩, ⟨hf, fun A hA => (by cases hA), .nil, fun k hk => (by simp [feet] at hk)⟩⟩
end Go.LK

namespace Go.LK
open Go Go.RowKit

theorem Frame.drewN {w : World} {n : Nat} : Frame w [] (w.drewN n) := ⟨rfl, rfl, rfl, Nat.le_refl _, fun _ _ _ => rfl⟩
theorem Frame.grow {w : World} {os : Array Obj} : Frame w [] (Go.Sort.grow w os) := ⟨rfl, rfl, rfl, by simp [Go.Sort.grow], fun k hk _ => by simp [Go.Sort.grow, Array.getElem?_append, hk]⟩
theorem Frame.growN {w : World} {n : Nat} {os : Array Obj} : Frame w [] (Go.Sort.grow (w.drewN n) os) := Frame.trans (Frame.drewN (n := n)) Frame.grow (fun k hk => by simp at hk)
theorem Frame.bytesWorld {w : World} {e : TypeId} {s : ByteArray} : Frame w [] (Lib.bytesWorld w e s) := by
  refine ⟨rfl, rfl, rfl, ?_, fun k hk _ => Lib.bytesWorld_at_old w e s k hk⟩
  simp [Lib.bytesWorld, World.freeze, World.alloc, World.drew, -World.alloc_eq, -World.drew_eq]
end Go.LK

namespace Go.LK
open Go Go.RowKit

section
variable {c : Cx} {E : Env} {x y : Operand} {T ty : TypeId} {f : Field} {fs : Array Field}

/-- An error held against nil. -/
theorem Pu.isNil {ms : Array (String × TypeId)} (hT : c.P.underlying T = some (.interface ms)) (hx : ev E x = some .nilIface) : Pu c E (.binOp .neq T x (.const .nilIface) T) ty (.bool false) := fun a w h _ _ _ _ => by
  have h2 : a.eval (.const .nilIface) = .nilIface := rfl
  have h3 : ∀ d, (Op.equalIn (d + 1) T .nilIface .nilIface).run c.P w = .ok true w := fun d => by simp [Op.equalIn, run_underlying hT]
  have h4 : (binOp .neq T .nilIface .nilIface).run c.P w = .ok (.bool false) w := by
    show (do pure (.bool (!(← Op.equal T .nilIface .nilIface))) : Sem Value).run c.P w = _
    rw [Sem.run_bind, show Op.equal T .nilIface .nilIface = Op.equalIn (9999 + 1) T .nilIface .nilIface from rfl, h3]
    rfl
  simp only [execOp, h.ev hx, h2, eqGuard_nil_constR]
  simp [h4]
theorem Pu.isSome {ms : Array (String × TypeId)} {t' : TypeId} {v : Value} (hT : c.P.underlying T = some (.interface ms)) (hx : ev E x = some (.iface t' v)) : Pu c E (.binOp .neq T x (.const .nilIface) T) ty (.bool true) := fun a w h _ _ _ _ => by
  have h2 : a.eval (.const .nilIface) = .nilIface := rfl
  have h3 : ∀ d, (Op.equalIn (d + 1) T (.iface t' v) .nilIface).run c.P w = .ok false w := fun d => by simp [Op.equalIn, run_underlying hT]
  have h4 : (binOp .neq T (.iface t' v) .nilIface).run c.P w = .ok (.bool true) w := by
    show (do pure (.bool (!(← Op.equal T (.iface t' v) .nilIface))) : Sem Value).run c.P w = _
    rw [Sem.run_bind, show Op.equal T (.iface t' v) .nilIface = Op.equalIn (9999 + 1) T (.iface t' v) .nilIface from rfl, h3]
    rfl
  have h5 : eqGuard .neq T x (.const .nilIface) (.iface t' v) .nilIface = pure () := by cases x <;> rfl
  simp only [execOp, h.ev hx, h2, h5]
  simp [h4]
end
end Go.LK

namespace Go.LK
open Go Go.RowKit

def errV (w : World) (g : Nat) : Prop := ∃ ev, w.cell? ⟨g, 0, none⟩ = some ev ∧ (ev = .nilIface ∨ ∃ te pe, ev = .iface te pe)
/-- internal/bytealg.MaxLen holds some int; the powers of ten; strconv's two errors hold some error. -/
def lib (gm gt gs gr : Nat) : Sp where
  foot := [gm, gt, gs, gr]
  holds w := (∃ m, w.cell? ⟨gm, 0, none⟩ = some (.int .i64 m)) ∧ (∃ t p, w.heap[gt]? = some (.cells (Lib.pow10Tab.map fun z => Value.int .u64 z).toArray t p)) ∧ errV w gs ∧ errV w gr
  lt w h := by
    obtain ⟨⟨m, h1⟩, ⟨t, p, h2⟩, ⟨e1, h3, _⟩, ⟨e2, h4, _⟩⟩ := h
    intro k hk
    simp only [List.mem_cons, List.not_mem_nil, or_false] at hk
    rcases hk with rfl | rfl | rfl | rfl
    · exact cell_lt h1
    · exact (Array.getElem?_eq_some_iff.1 h2).1
    · exact cell_lt h3
    · exact cell_lt h4
  loc w w' h hh := by
    obtain ⟨⟨m, h1⟩, ⟨t, p, h2⟩, ⟨e1, h3, h3'⟩, ⟨e2, h4, h4'⟩⟩ := hh
    exact ⟨⟨m, by rw [← h1]; exact cell_of_block (h gm (by simp))⟩, ⟨t, p, by rw [← h2]; exact h gt (by simp)⟩, ⟨e1, by rw [← h3]; exact cell_of_block (h gs (by simp)), h3'⟩, ⟨e2, by rw [← h4]; exact cell_of_block (h gr (by simp)), h4'⟩⟩
theorem lib_tab {P : Program} {gm gt gs gr : Nat} {w : World} (hg : P.globalNamed "internal/strconv.uint64pow10" = some gt) (h : (lib gm gt gs gr).holds w) : Lib.TabIs P w "internal/strconv.uint64pow10" .u64 Lib.pow10Tab := by
  obtain ⟨_, ⟨t, p, h2⟩, _⟩ := h
  unfold Lib.TabIs World.var?
  rw [hg]
  simp [h2]

/-- A contract of the library's, of more than one value, in this logic. -/
theorem Tri.lib' {P : Program} {f : FuncId} {args : Array Value} {Ro : List Sp} {post : Value → Prop} (h : ∀ w, (∀ A ∈ Ro, A.holds w) → Calls P f args w fun e w' => ∃ v, e = .returned v ∧ post v ∧ Frame w [] w') : Tri P f args Ro [] (fun u L' => post u ∧ L' = []) := fun w hro hst =>
  (h w fun A hA => (hro A hA).1).mono fun e w' ⟨v, he, hp, hf⟩ => ⟨v, [], he, ⟨hp, rfl⟩, ⟨hf, fun A hA => (by cases hA), .nil, fun k hk => (by simp [feet] at hk)⟩⟩

/-- Is this value nil, as a value of an interface? -/
def nilI : Value → Bool
  | .nilIface => true
  | _ => false
section
variable {c : Cx} {E : Env} {x : Operand} {T ty : TypeId} {v : Value} {b : Bool} {ms : Array (String × TypeId)}
theorem Pu.neNil (hT : c.P.underlying T = some (.interface ms)) (hx : ev E x = some v) (h : v = .nilIface ∨ ∃ t p, v = .iface t p) (hb : nilI v = b) : Pu c E (.binOp .neq T x (.const .nilIface) T) ty (.bool (!b)) := by
  subst hb
  rcases h with rfl | ⟨t, p, rfl⟩
  · exact Pu.isNil hT hx
  · exact Pu.isSome hT hx
end
end Go.LK

namespace Go.LK
open Go Go.RowKit
theorem Pu.to {c : Cx} {E : Env} {o : Op} {ty : TypeId} {v v' : Value} (h : Pu c E o ty v) (e : v = v') : Pu c E o ty v' := e ▸ h
end Go.LK
