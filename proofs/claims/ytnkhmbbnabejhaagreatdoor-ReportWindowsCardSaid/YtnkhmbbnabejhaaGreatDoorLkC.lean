/-
  Several texts in one: Lk18, Lk19.
-/
import Derived.Test.YtnkhmbbnabejhaaGreatDoorLk17
import Derived.Lib.LaidTab
import Derived.Lib.ItoaNum
import Derived.Lib.ParseIntBTie
import Derived.Lib.IndexMore
namespace Go.LK
open Go Go.RowKit

def errV (w : World) (g : Nat) : Prop := ∃ ev, w.cell? ⟨g, 0, none⟩ = some ev ∧ (ev = .nilIface ∨ ∃ te pe, ev = .iface te pe)
/-- internal/bytealg.MaxLen holds some int; the powers of ten; strconv's two errors hold some error. -/
def lib (gm gt gs gr : Nat) : Sp where
  foot := [gm, gt, gs, gr]
  holds w := (∃ m, w.cell? ⟨gm, 0, none⟩ = some (.int .i64 m)) ∧ (∃ t p, w.heap[gt]? = some (.cells (Lib.pow10Tab.map fun z => Value.int .u64 z).toArray t p)) ∧ errV w gs ∧ errV w gr
  lt w h := by
    obtain ⟨⟨m, h1⟩, ⟨t, p, h2⟩, ⟨e1, h3, _⟩, ⟨e2, h4, _⟩⟩ := h
    intro k hk
    simp only [List.mem_cons, List.not_mem_nil, or_false] at hk
    rcases hk with rfl | rfl | rfl | rfl
    · exact cell_lt h1
    · exact (Array.getElem?_eq_some_iff.1 h2).1
    · exact cell_lt h3
    · exact cell_lt h4
  loc w w' h hh := by
    obtain ⟨⟨m, h1⟩, ⟨t, p, h2⟩, ⟨e1, h3, h3'⟩, ⟨e2, h4, h4'⟩⟩ := hh
    exact ⟨⟨m, by rw [← h1]; exact cell_of_block (h gm (by simp))⟩, ⟨t, p, by rw [← h2]; exact h gt (by simp)⟩, ⟨e1, by rw [← h3]; exact cell_of_block (h gs (by simp)), h3'⟩, ⟨e2, by rw [← h4]; exact cell_of_block (h gr (by simp)), h4'⟩⟩
theorem lib_tab {P : Program} {gm gt gs gr : Nat} {w : World} (hg : P.globalNamed "internal/strconv.uint64pow10" = some gt) (h : (lib gm gt gs gr).holds w) : Lib.TabIs P w "internal/strconv.uint64pow10" .u64 Lib.pow10Tab := by
  obtain ⟨_, ⟨t, p, h2⟩, _⟩ := h
  unfold Lib.TabIs World.var?
  rw [hg]
  simp [h2]

/-- A contract of the library's, of more than one value, in this logic. -/
theorem Tri.lib' {P : Program} {f : FuncId} {args : Array Value} {Ro : List Sp} {post : Value → Prop} (h : ∀ w, (∀ A ∈ Ro, A.holds w) → Calls P f args w fun e w' => ∃ v, e = .returned v ∧ post v ∧ Frame w [] w') : Tri P f args Ro [] (fun u L' => post u ∧ L' = []) := fun w hro hst =>
  (h w fun A hA => (hro A hA).1).mono fun e w' ⟨v, he, hp, hf⟩ => ⟨v, [], he, ⟨hp, rfl⟩, ⟨hf, fun A hA => (by cases hA), .nil, fun k hk => (by simp [feet] at hk)⟩⟩

/-- Is this value nil, as a value of an interface? -/
def nilI : Value → Bool
  | .nilIface => true
  | _ => false
section
variable {c : Cx} {E : Env} {x : Operand} {T ty : TypeId} {v : Value} {b : Bool} {ms : Array (String × TypeId)}
theorem Pu.neNil (hT : c.P.underlying T = some (.interface ms)) (hx : ev E x = some v) (h : v = .nilIface ∨ ∃ t p, v = .iface t p) (hb : nilI v = b) : Pu c E (.binOp .neq T x (.const .nilIface) T) ty (.bool (!b)) := by
  subst hb
  rcases h with rfl | ⟨t, p, rfl⟩
  · exact Pu.isNil hT hx
  · exact Pu.isSome hT hx
end
end Go.LK

namespace Go.LK
open Go Go.RowKit
theorem Pu.to {c : Cx} {E : Env} {o : Op} {ty : TypeId} {v v' : Value} (h : Pu c E o ty v) (e : v = v') : Pu c E o ty v' := e ▸ h
end Go.LK
