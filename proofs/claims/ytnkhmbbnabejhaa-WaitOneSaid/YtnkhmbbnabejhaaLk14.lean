/-
  An empty slice literal.
-/
import Derived.Test.YtnkhmbbnabejhaaLk13
namespace Go.LK
open Go Go.RowKit

theorem Lo.buildE {α : Type} (f : α → List Value) {c : Cx} {E : Env} {L : List Sp} {T t : TypeId} {s : Nat} {ty : TypeId} (hT : ∀ w, (underlying T).run c.P w = .ok (.slice t) w) (hs : ∀ w, (sizeOf t).run c.P w = .ok s w) :
    Lo c E L (.buildSlice T 0 #[]) ty fun v L' => L' = row v t s (([] : List α).map f) :: L := fun _ a w ha hst d pos af g K Q hK => by
  refine wp_loud (v := .slice (some ⟨w.heap.size, 0, none⟩) 0 0) (w' := w.alloc (.cells #[] t)) ?_ (hK _ _ _ rfl (hst.add (frame_alloc w _) ⟨?_, by simp⟩ (by simp [row, Value.ownBlock])))
  · simp only [execOp]
    simp [Instr.buildSlice, hT, hs, Instr.fill, run_newRow]
    rw [show Array.range 0 = #[] from Array.eq_empty_of_size_eq_zero (by simp)]
    simp
  · exact ⟨by simp, .inr ⟨w.heap.size, 0, _, rfl, Nat.zero_le _, heap_alloc_new w _, Nat.le_refl _, by simp [maxLen], by simp, by simp⟩⟩
/-! ### A cut: what follows a piece of code is shown once, whatever way through the piece was taken -/
def cutI {X : Type} (c : Cx) (φ : X → Prop) (EE : X → Env) (LL : X → List Sp) (a : Act) (w : World) : Prop := ∃ x, φ x ∧ Has c.n a (EE x) ∧ St c.w0 c.M (LL x) w
theorem J.cutK {c : Cx} {k : List It} {E : Env} {L : List Sp} {X : Type} (φ : X → Prop) (EE : X → Env) (LL : X → List Sp) {x : Code} (rest : ∀ y, φ y → J c k (EE y) (LL y))
    (first : J c (.code x :: .lp (cutI c φ EE LL) :: k) E L) : J c (.code x :: k) E L := fun ok a w ha hs => by
  have h : Code.wp c.P x (Exit.then (cutI c φ EE LL) (c.Q k)) a w := first ok a w ha hs
  refine Code.wp_mono (fun e a w q => ?_) h
  cases e with
  | normal =>
    obtain ⟨y, hy, h1, h2⟩ := q
    exact rest y hy ok a w h1 h2
  | exit id => exact q
  | goto l => exact q
  | ret => exact q
  | panic ch => exact q
  | outgrown => exact q
theorem J.cutEnd {c : Cx} {k : List It} {E : Env} {L : List Sp} {X : Type} {φ : X → Prop} {EE : X → Env} {LL : X → List Sp} (y : X) (hφ : φ y) (hE : Sub (EE y) E) (is : List Nat) (hn : is.Nodup) (hL : LK.sel L is = LL y) : J c (.lp (cutI c φ EE LL) :: k) E L :=
  fun _ _ _ ha hs => ⟨y, hφ, ha.sub hE, hL ▸ hs.sel hn⟩
end Go.LK
