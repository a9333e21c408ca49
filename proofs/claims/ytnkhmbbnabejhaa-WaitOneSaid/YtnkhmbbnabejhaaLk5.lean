/-
  Regions that draw their order.
-/
import Derived.Test.YtnkhmbbnabejhaaLk4
import Derived.StillTail
namespace Go.LK
open Go Go.RowKit

section
variable {c : Cx} {k : List It} {E : Env} {L : List Sp} {ops : Array Oper} {rest : List Oper} {o : Op} {ty : TypeId} {d : Nat} {pos : String} {af : Array Edge} {v : Value}

theorem St.drew' {w0 w : World} {M : List Nat} (h : St w0 M L w) : St w0 M L { w with drawn := w.drawn + 1 } := h.drew _

/-! ### Operations that leave the world as it is, in the order of the text -/
def S (c : Cx) (ops : Array Oper) (T : World → Act → Prop) (rest : List Oper) (E : Env) (L : List Sp) : Prop := c.Ok → ∀ a w, Has c.n a E → St c.w0 c.M L w → wpStill c.P ops w (T w) rest a

section
variable {T : World → Act → Prop}
theorem still_of_run {P : Program} {o : Oper} {a : Act} {w : World} {v : Value} {K : Act → Prop} (h : (execOp a.eval o).run P w = .ok (.value v) w) (hk : K (a.put o.dst v)) : o.still P a w K := by
  unfold Oper.still; rw [h]; exact ⟨rfl, hk⟩

theorem S.q (hq : Qt c E L o ty v) (hd : Nat.blt d c.n = true) (h : S c ops T rest ((d, v) :: E) L) : S c ops T (⟨some d, o, ty, pos, af, none⟩ :: rest) E L := fun ok a w ha hs =>
  wpStill_step fun _ hK => by
    rw [if_pos (by simp [Region.wanted])]
    exact still_of_run (hq ok a w ha hs _ _ _ _) (hK _ (h ok _ w (ha.put v hd) hs))
theorem S.p (hq : Pu c E o ty v) (hd : Nat.blt d c.n = true) (h : S c ops T rest ((d, v) :: E) L) : S c ops T (⟨some d, o, ty, pos, af, none⟩ :: rest) E L := S.q hq.qt hd h
theorem S.gq {j t : Nat} {want b : Bool} (hj : (ops[j]?).bind (·.dst) = some t) (ht : look E t = some (.bool b)) (hb : b = want) (hn : Nat.blt t c.n = true) (hq : Qt c E L o ty v) (hd : Nat.blt d c.n = true)
    (h : S c ops T rest ((d, v) :: E) L) : S c ops T (⟨some d, o, ty, pos, af, some (j, want)⟩ :: rest) E L := fun ok a w ha hs =>
  wpStill_step fun _ hK => by
    rw [wanted_yes (j := j) (t := t) (want := want) ha rfl hj (hb ▸ ht) hn, if_pos rfl]
    exact still_of_run (hq ok a w ha hs _ _ _ _) (hK _ (h ok _ w (ha.put v hd) hs))
theorem S.gskip {j t : Nat} {want : Bool} {u : Value} (hj : (ops[j]?).bind (·.dst) = some t) (ht : look E t = some u) (hu : boolOf u ≠ some want) (hn : Nat.blt t c.n = true) (hd : Nat.blt d c.n = true)
    (h : S c ops T rest ((d, undef) :: E) L) : S c ops T (⟨some d, o, ty, pos, af, some (j, want)⟩ :: rest) E L := fun ok a w ha hs =>
  wpStill_step fun _ hK => by
    rw [wanted_no (j := j) (t := t) (want := want) ha rfl hj ht hu hn, if_neg (by simp)]
    exact hK _ (h ok _ w (ha.put undef hd) hs)
end

theorem S.endO {tail : List Oper} (h : O c ops tail k E L) : S c ops (fun w a => wpList c.P ops (c.Q k) tail a w) [] E L := fun ok a w ha hs => wpStill_nil (h ok a w ha hs)
theorem S.endJ (h : J c k E L) : S c ops (fun w a => c.Q k .normal a w) [] E L := fun ok a w ha hs => wpStill_nil (h ok a w ha hs)

theorem J.drawTail {id : Nat} {l : List Oper} (n : Nat) (hm : c.P.follows .mixedOrders = true) (hB : Region.lexTailB .any l.toArray n = true) (h : S c l.toArray (fun w a => wpList c.P l.toArray (c.Q k) (l.drop n) a w) (l.take n) E L) :
    J c (.code (.region id l.toArray true) :: k) E L := fun ok a w ha hs => wp_region_still_tail n hm hB (h ok a _ ha hs.drew')
theorem J.drawStill {id : Nat} {l : List Oper} (hm : c.P.follows .mixedOrders = true) (hB : Region.lexB .any l.toArray = true) (h : S c l.toArray (fun w a => c.Q k .normal a w) l E L) :
    J c (.code (.region id l.toArray true) :: k) E L := fun ok a w ha hs => wp_region_still hm hB (by simpa using h ok a _ ha hs.drew')

/-! ### Any order -/
def D (c : Cx) (ops : Array Oper) (m : Nat) (listed : Array Bool) (k : List It) (E : Env) (L : List Sp) : Prop := c.Ok → ∀ a w, Has c.n a E → St c.w0 c.M L w → wpAny c.P .any ops (c.Q k) m listed a w
def W (c : Cx) (ops : Array Oper) (i m : Nat) (listed : Array Bool) (k : List It) (E : Env) (L : List Sp) : Prop := c.Ok → ∀ a w, Has c.n a E → St c.w0 c.M L w → wpOp c.P ops (c.Q k) i (wpAny c.P .any ops (c.Q k) m (listed.setIfInBounds i true)) a w
def Wall (c : Cx) (ops : Array Oper) (m : Nat) (listed : Array Bool) (k : List It) (E : Env) (L : List Sp) : List Nat → Prop
  | [] => True
  | i :: rs => W c ops i m listed k E L ∧ Wall c ops m listed k E L rs

theorem J.draw {id : Nat} {l : List Oper} (hm : c.P.follows .mixedOrders = true) (listed : Array Bool) (hl : Array.replicate l.length false = listed) (h : D c l.toArray l.length listed k E L) : J c (.code (.region id l.toArray true) :: k) E L := fun ok a w ha hs =>
  wp_region_any hm (by simpa [hl] using h ok a _ ha hs.drew')

theorem Wall.mem {m : Nat} {listed : Array Bool} : ∀ {rs : List Nat}, Wall c ops m listed k E L rs → ∀ i ∈ rs, W c ops i m listed k E L
  | [], _, i, hi => by simp at hi
  | j :: rs, h, i, hi => by
    rcases List.mem_cons.1 hi with rfl | hi
    · exact h.1
    · exact h.2.mem i hi

theorem D.all {m : Nat} {listed : Array Bool} (i : Nat) (rs : List Nat) (hr : Region.ready .any ops listed = i :: rs) (h : Wall c ops m listed k E L (i :: rs)) : D c ops (m + 1) listed k E L := fun ok a w ha hs =>
  wpAny_all hr (by simp) fun j hj => h.mem j hj ok a w ha hs

theorem D.nilRow {m : Nat} {listed : Array Bool} (t : TypeId) (s : Nat) (h : D c ops m listed k E (row (.slice none 0 0) t s [] :: L)) : D c ops m listed k E L := fun ok a w ha hs =>
  h ok a w ha (hs.add (Frame.refl w _) ⟨World.ownsRow_nil w 0 t s, by simp⟩ (by simp [row, Value.ownBlock]))
theorem W.nilRow {i m : Nat} {listed : Array Bool} (t : TypeId) (s : Nat) (h : W c ops i m listed k E (row (.slice none 0 0) t s [] :: L)) : W c ops i m listed k E L := fun ok a w ha hs =>
  h ok a w ha (hs.add (Frame.refl w _) ⟨World.ownsRow_nil w 0 t s, by simp⟩ (by simp [row, Value.ownBlock]))
theorem D.done {m : Nat} {listed : Array Bool} (hr : Region.ready .any ops listed = []) (h : J c k E L) : D c ops m listed k E L := fun ok a w ha hs => wpAny_done hr (h ok a w ha hs) m

theorem Q_panic {P : Program} {R0 : Exit → Act → World → Prop} {ch : List PanicEntry} {a : Act} {w : World} : ∀ {k : List It}, Qof P R0 k (.panic ch) a w = R0 (.panic ch) a w
  | [] => rfl
  | .blk _ :: k => Q_panic (k := k)
  | .code _ :: k => Q_panic (k := k)
  | .scp :: k => Q_panic (k := k)
  | .lp _ :: k => Q_panic (k := k)

theorem D.take {m : Nat} {listed listed' : Array Bool} (i : Nat) (hi : ops[i]? = some ⟨some d, o, ty, pos, af, none⟩) (hs : Region.noSelect ops = true) (hf : Region.free .any ops listed i = true) (hr : (Region.ready .any ops listed).contains i = true)
    (hl : listed.setIfInBounds i true = listed') (hq : Pu c E o ty v) (hd : Nat.blt d c.n = true) (h : D c ops m listed' k ((d, v) :: E) L) : D c ops (m + 1) listed k E L := fun ok a w ha hst =>
  wpAny_take hi hs hf hr (fun ch a _ hp => by rw [Cx.Q, Q_panic] at hp ⊢; exact hp) (.inl ⟨by simp [Region.wanted], fun w => hq a w ha _ _ _ _⟩) (hl ▸ h ok _ w (ha.put v hd) hst)

theorem W.q {i m : Nat} {listed listed' : Array Bool} (hi : ops[i]? = some ⟨some d, o, ty, pos, af, none⟩) (hl : listed.setIfInBounds i true = listed') (hq : Qt c E L o ty v) (hd : Nat.blt d c.n = true) (h : D c ops m listed' k ((d, v) :: E) L) : W c ops i m listed k E L := fun ok a w ha hs => by
  unfold wpOp
  simp only [hi]
  rw [if_pos (by simp [Region.wanted])]
  exact .inl (wp_of_run (hq ok a w ha hs _ _ _ _) (hl ▸ h ok _ w (ha.put v hd) hs))
theorem W.l {i m : Nat} {listed listed' : Array Bool} {R : Value → List Sp → Prop} (hi : ops[i]? = some ⟨some d, o, ty, pos, af, none⟩) (hl : listed.setIfInBounds i true = listed') (hq : Lo c E L o ty R) (hd : Nat.blt d c.n = true) (h : ∀ v L', R v L' → D c ops m listed' k ((d, v) :: E) L') : W c ops i m listed k E L := fun ok a w ha hs => by
  unfold wpOp
  simp only [hi]
  rw [if_pos (by simp [Region.wanted])]
  exact .inl (hq ok a w ha hs _ _ _ _ _ _ fun v L' w' hR hs' => hl ▸ h v L' hR ok _ w' (ha.put v hd) hs')
theorem W.l0 {i m : Nat} {listed listed' : Array Bool} {R : Value → List Sp → Prop} (hi : ops[i]? = some ⟨none, o, ty, pos, af, none⟩) (hl : listed.setIfInBounds i true = listed') (hq : Lo c E L o ty R) (h : ∀ v L', R v L' → D c ops m listed' k E L') : W c ops i m listed k E L := fun ok a w ha hs => by
  unfold wpOp
  simp only [hi]
  rw [if_pos (by simp [Region.wanted])]
  exact .inl (hq ok a w ha hs _ _ _ _ _ _ fun v L' w' hR hs' => hl ▸ h v L' hR ok _ w' ha hs')

/-! ### Ways meet again -/
theorem J.cut {X : Type} (φ : X → Prop) (EE : X → Env) (LL : X → List Sp) {x : Code} (h : J c (.code x :: .lp (inv c φ EE LL (fun _ => 0) 1) :: k) E L) (h' : ∀ y, φ y → J c k (EE y) (LL y)) : J c (.code x :: k) E L := fun ok a w ha hs => by
  refine Code.wp_mono (fun e a w q => ?_) (h ok a w ha hs)
  cases e with
  | normal =>
    obtain ⟨y, hφ, _, ha', hs'⟩ := q
    exact h' y hφ ok a w ha' hs'
  | _ => exact q
end
end Go.LK
