/-
  Several texts in one: Lk35, Lk36, Lk37.
-/
import Derived.Test.YtohjlkjhpibkmaaGreatDoorLkE
import Derived.OrdersIn
namespace Go.LK
open Go Go.RowKit

def up (ds : List Deferred) (x : Act) : Act := { x with defers := x.defers ++ ds }
theorem up_eval (ds : List Deferred) (x : Act) : (up ds x).eval = x.eval := by
  funext o
  cases o <;> rfl
theorem up_put (ds : List Deferred) (x : Act) (d : Option Tmp) (v : Value) : (up ds x).put d v = up ds (x.put d v) := by cases d <;> rfl
theorem up_bare {n : Nat} {ds : List Deferred} {a : Act} {E : Env} (h : HasD n ds a E) : up ds (bare a) = a := by
  have := h.defers
  cases a
  simp only [up, bare, List.nil_append] at this ⊢
  rw [this]
theorem HasD.up {n : Nat} {ds : List Deferred} {a : Act} {E : Env} (h : Has n a E) : HasD n ds (up ds a) E := ⟨h.size, by show a.defers ++ ds = ds; rw [h.defers]; rfl, h.at_⟩

section
variable {P : Program} {ro : Option Nat} {m : Nat} {ds : List Deferred} {Q0 Q : Exit → Act → World → Prop} {ops : Array Oper}
theorem Oper.wp_up {o : Oper} {a : Act} {w : World} {K K' : Act → World → Prop} (hnd : noDefer o.op = true) (hQ : ∀ e x w, Q0 e x w → e = .normal) (h : o.wp P a w K Q0) (hK : ∀ x w, K x w → K' (up ds x) w) : o.wpIn (FW ro) m P (up ds a) w K' Q := by
  refine ⟨fun _ _ => trivial, ?_⟩
  rw [Oper.semAt_eq ro _ o (noDefer_of hnd), up_eval]
  unfold Oper.wp at h
  revert h
  generalize (execOp a.eval o).run P w = r
  intro h
  unfold Oper.upon at h
  split at h
  · show K' ((up ds a).put o.dst _) _
    rw [up_put]; exact hK _ _ h
  · show K' ((up ds a).put o.dst _) _
    rw [up_put]; exact hK _ _ h
  · rename_i d w'
    show K' (({ up ds a with defers := d :: (up ds a).defers } : Act).put o.dst undef) _
    have : ({ up ds a with defers := d :: (up ds a).defers } : Act) = up ds { a with defers := d :: a.defers } := rfl
    rw [this, up_put]; exact hK _ _ h
  · rw [Oper.uponIn_enter]
    refine ⟨fun h => (by cases h), ?_⟩
    refine CallsIn.mono (show CallsIn (FW ro) (m - 1) P _ _ _ _ from callsIn_wide.2 h) ?_
    intro e w' h'
    cases e with
    | returned v =>
      show K' ((up ds a).put o.dst _) _
      rw [up_put]; exact hK _ _ h'
    | panicked ch => cases hQ _ _ _ h'
    | outgrown => obtain ⟨_, _, hf⟩ := h'; cases hQ _ _ _ hf
  · rw [Oper.uponIn_row]
    refine ⟨fun h => (by cases h), fun c cs _ => ?_⟩
    obtain ⟨v, w', h1, h2⟩ := h c cs
    refine ⟨v, w', ?_, stepsIn_wide.2 h2⟩
    show K' ((up ds a).put o.dst _) _
    rw [up_put]; exact hK _ _ h1
  · cases hQ _ _ _ h
  · exact h.elim
theorem wpOp_up {i : Nat} {a : Act} {w : World} {K K' : Act → World → Prop} (hnd : ∀ o ∈ ops, noDefer o.op = true) (hQ : ∀ e x w, Q0 e x w → e = .normal) (h : wpOp P ops Q0 i K a w) (hK : ∀ x w, K x w → K' (up ds x) w) : wpOpIn (FW ro) m P ops Q i K' (up ds a) w := by
  unfold wpOp at h
  unfold wpOpIn
  cases hi : ops[i]? with
  | none => rw [hi] at h; exact hK _ _ h
  | some o =>
    rw [hi] at h
    simp only at h ⊢
    show if Region.wanted o (yielded ops a.tmps) then _ else _
    split
    · rename_i hw
      rw [if_pos hw] at h
      rcases h with h | ⟨_, _, _, hf⟩
      · exact Oper.wp_up (hnd o (Array.mem_of_getElem? hi)) hQ h hK
      · cases hQ _ _ _ hf
    · rename_i hw
      rw [if_neg hw] at h
      exact ⟨fun _ _ => trivial, by rw [up_put]; exact hK _ _ h⟩
theorem wpAny_up {md : Region.Mode} (hnd : ∀ o ∈ ops, noDefer o.op = true) (hQ : ∀ e x w, Q0 e x w → e = .normal) (hN : ∀ x w, Q0 .normal x w → Q .normal (up ds x) w) : ∀ (fuel : Nat) (listed : Array Bool) (a : Act) (w : World), wpAny P md ops Q0 fuel listed a w → wpAnyIn (FW ro) m P md ops Q fuel listed (up ds a) w
  | 0, _, _, _, h => ⟨h.1, hN _ _ h.2⟩
  | fuel + 1, listed, a, w, h => ⟨fun hr => hN _ _ (h.1 hr), fun i hi => wpOp_up hnd hQ (h.2 i hi) fun x w hx => wpAny_up hnd hQ hN fuel _ x w hx⟩
end

/-- The same, with no end of its own. -/
def Cx.mute (c : Cx) : Cx := { c with R := fun _ _ => False }
def upC (c : Cx) (i : Ci) (k : List It) : Act → World → Prop := fun x w => QI c.P i k .normal (up i.ds x) w
theorem mute_normal {c : Cx} {I : Act → World → Prop} : ∀ e x w, c.mute.Q [.lp I] e x w → e = .normal := by
  intro e x w h
  cases e <;> first | rfl | (exfalso; first | exact h.elim | exact h.2.elim | (obtain ⟨_, _, _, h2⟩ := h; exact h2.elim))
section
variable {c : Cx} {i : Ci} {k : List It} {E : Env} {L : List Sp} {ops : Array Oper}
def allND (l : List Oper) : Bool := l.all fun o => noDefer o.op
theorem allND_mem {l : List Oper} (h : allND l = true) : ∀ o ∈ l.toArray, noDefer o.op = true := fun o ho => List.all_eq_true.1 h o (by simpa using ho)
theorem JI.anyUp {id : Nat} {l : List Oper} (hm : c.P.follows .mixedOrders = true) (hnd : allND l = true) (h : c.Ok → ∀ a w, Has c.n a E → St c.w0 c.M L w → wpAny c.P .any l.toArray (c.mute.Q [.lp (upC c i k)]) l.toArray.size (Array.replicate l.toArray.size false) a { w with drawn := w.drawn + 1 }) :
    JI c i (.code (.region id l.toArray true) :: k) E L := fun ok a w ha hs => by
  refine wpIn_region_any hm ?_
  have := wpAny_up (ro := i.ro) (m := i.dp) (ds := i.ds) (Q := QI c.P i k) (allND_mem hnd) mute_normal (fun x w hx => hx) _ _ (bare a) _ (h ok (bare a) w ha.bare hs)
  rwa [up_bare ha] at this
theorem any_of_tail {P : Program} {Q : Exit → Act → World → Prop} {a : Act} {w : World} {l : List Oper} (n : Nat) (hB : Region.lexTailB .any l.toArray n = true)
    (h : wpStill P l.toArray w (fun a' => wpList P l.toArray Q (l.drop n) a' w) (l.take n) a) : wpAny P .any l.toArray Q l.toArray.size (Array.replicate l.toArray.size false) a w := by
  simp only [Region.lexTailB, Bool.and_eq_true, decide_eq_true_eq] at hB
  obtain ⟨⟨⟨⟨hsel, hn⟩, hs⟩, hc⟩, hlex⟩ := hB
  have hn' : n < l.length := by simpa using hn
  have htl : (l.take n).length = n := by simp; omega
  have hdl : (l.drop n).length = l.toArray.size - n := by simp
  have inv0 : HeadInv .any l.toArray n (Array.replicate l.toArray.size false) :=
    ⟨by simp, fun j oj _ hl => (by rw [getD_replicate_false] at hl; cases hl), fun t _ ht => getD_in (by simpa using ht) (getD_replicate_false _ _)⟩
  have H := wpAnyL_lex (md := .any) (g := l.toArray.size - n) hsel hs hc hn (l.take n) 0 _ a (fun j hj => by
    have hj' : j < n := by rw [htl] at hj; exact hj
    simp [hj']) (by simpa using htl) inv0 (by rw [htl]; exact hlex) h
  have := wpAny_of_head (Q' := Q) (g := l.toArray.size - n) (fun listed a' hL => by
    have := wpAny_of_seq (md := .any) (Q' := Q) (l.drop n) n listed a' w (fun j => by simp [List.getElem?_drop]) (by rw [hdl]; exact hL.1) hL.2
    rwa [hdl] at this) _ _ _ H
  rw [htl, show n + (l.toArray.size - n) = l.toArray.size by omega] at this
  exact this
theorem any_of_still {P : Program} {Q : Exit → Act → World → Prop} {a : Act} {w : World} {l : List Oper} (hB : Region.lexB .any l.toArray = true)
    (h : wpStill P l.toArray w (fun a' => Q .normal a' w) l a) : wpAny P .any l.toArray Q l.toArray.size (Array.replicate l.toArray.size false) a w := by
  simp only [Region.lexB, Bool.and_eq_true] at hB
  refine wpAny_of_still (Q := fun a' => Q .normal a' w) (fun _ h => h) _ _ _ ?_
  have := wpAnyS_lex (md := .any) hB.1 l.toArray.toList 0 (Array.replicate l.toArray.size false) a (by simp) (by simpa using hB.2) (by simpa using h)
  simpa using this
theorem JI.drawTail {id : Nat} {l : List Oper} (n : Nat) (hm : c.P.follows .mixedOrders = true) (hB : Region.lexTailB .any l.toArray n = true) (hnd : allND l = true)
    (h : S c.mute l.toArray (fun w a => wpList c.P l.toArray (c.mute.Q [.lp (upC c i k)]) (l.drop n) a w) (l.take n) E L) : JI c i (.code (.region id l.toArray true) :: k) E L :=
  JI.anyUp hm hnd fun ok a w ha hs => any_of_tail n hB (h ok a _ ha hs.drew')
theorem JI.drawStill {id : Nat} {l : List Oper} (hm : c.P.follows .mixedOrders = true) (hB : Region.lexB .any l.toArray = true) (hnd : allND l = true)
    (h : S c.mute l.toArray (fun w a => c.mute.Q [.lp (upC c i k)] .normal a w) l E L) : JI c i (.code (.region id l.toArray true) :: k) E L :=
  JI.anyUp hm hnd fun ok a w ha hs => any_of_still hB (h ok a _ ha hs.drew')
theorem JI.drawMix {id : Nat} {l : List Oper} (ord : List (Nat × Bool)) (is : List Nat) (K : List Sp) (hm : c.P.follows .mixedOrders = true) (hB : mixB l.toArray ord = true) (hnd : allND l = true) (hn : is.Nodup) (hL : LK.sel L is = K)
    (h : Mx c.mute l.toArray (fun E' L' => J c.mute [.lp (upC c i k)] E' L') [] ord E K L) : JI c i (.code (.region id l.toArray true) :: k) E L :=
  JI.anyUp hm hnd fun ok _ _ ha hs => mix_sound (c := c.mute) (ok := ok) hB (fun _ hs => hL ▸ hs.sel hn) h ha hs.drew'
end
end Go.LK

namespace Go.LK
open Go Go.RowKit
def EqR (P : Program) (d : Nat) (t : TypeId) (x y : Value) (b : Bool) : Prop := ∀ w, (Op.equalIn d t x y).run P w = .ok b w
inductive EqFs (P : Program) (d : Nat) (xs ys : Array Value) : List Field → Bool → Prop
  | nil : EqFs P d xs ys [] true
  | cons {f : Field} {fs : List Field} {x y : Value} {b1 b2 : Bool} (hn : (f.name == "_") = false) (hx : ∀ w, (part f.type xs f.offset).run P w = .ok x w) (hy : ∀ w, (part f.type ys f.offset).run P w = .ok y w) (h : EqR P d f.type x y b1) (hs : EqFs P d xs ys fs b2) : EqFs P d xs ys (f :: fs) (b1 && b2)
section
variable {P : Program} {d : Nat} {t : TypeId} {xs ys : Array Value} {v : Value}
theorem EqR.int {a b : Int} (hu : P.underlying t = some (.int .i64)) : EqR P (d + 1) t (.int .i64 a) (.int .i64 b) (decide (a = b)) := fun w => by rw [run_equalIn_int w d t .i64 .i64 a b hu]; rfl
theorem EqR.bool {a b : Bool} (hu : P.underlying t = some .bool) : EqR P (d + 1) t (.bool a) (.bool b) (a == b) := fun w => run_equalIn_bool w d t a b hu
theorem EqFs.run {fs : List Field} {b : Bool} (h : EqFs P d xs ys fs b) (w : World) : (Op.eqFields d xs ys fs).run P w = .ok b w := by
  induction h with
  | nil => rfl
  | cons hn hx hy h hs ih =>
    rename_i f fs x y b1 b2
    have hn' : ¬ f.name = "_" := by simpa using hn
    simp only [Op.eqFields, if_pos hn', Sem.run_bind, hx, hy, Result.andThen_ok, h w]
    cases b1
    · simp
    · simpa using ih
theorem EqR.struct {fs : Array Field} {b : Bool} (hT : P.underlying t = some (.struct fs)) (hp : P.stoodInHeld t = false) (h : EqFs P d xs ys fs.toList b) : EqR P (d + 1) t (.agg xs) (.agg ys) b := fun w => by
  have h1 : P.fieldsOf t = fs := by simp [Program.fieldsOf, hT]
  rw [run_equalIn_struct w d t _ _ (by rw [h1]; exact hT) hp, h1]
  exact h.run w
end
section
variable {c : Cx} {E : Env} {ty : TypeId} {x y : Operand} {T : TypeId} {xs ys : Array Value} {b : Bool}
end
end Go.LK

namespace Go.LK
open Go Go.RowKit
section
variable {c : Cx} {E : Env} {L : List Sp} {x : Operand} {S D ty : TypeId} {V : Value}
end
end Go.LK
