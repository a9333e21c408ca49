/-
  The logic again, for code in a round of a range over a function (and ahead of, or behind, such a range): over the fenced rules 'wpIn', with what has been deferred as it is.
-/
import Derived.Test.YtohjlkjhpibkmaaGreatDoorLk11
import Derived.RangeFuncKeeps
import Derived.RangeFuncLeaves
import Derived.RangeFuncCalls
import Derived.TacticsIn
namespace Go.LK
open Go Go.RowKit

/-- Everything may be called; in the round of this loop, or in none. -/
abbrev FW (ro : Option Nat) : Fence := { Fence.wide with round := ro }

structure HasD (n : Nat) (ds : List Deferred) (a : Act) (E : Env) : Prop where
  size : a.tmps.size = n
  defers : a.defers = ds
  at_ : ∀ t v, look E t = some v → a.tmps.getD t undef = v

def bare (a : Act) : Act := { a with defers := [] }
theorem HasD.bare {n : Nat} {ds : List Deferred} {a : Act} {E : Env} (h : HasD n ds a E) : Has n (bare a) E := ⟨h.size, rfl, h.at_⟩
theorem HasD.of {n : Nat} {a : Act} {E : Env} (h : Has n a E) : HasD n [] a E := ⟨h.size, h.defers, h.at_⟩
theorem bare_eval (a : Act) : (bare a).eval = a.eval := by
  funext x
  cases x <;> rfl
theorem HasD.ev {n : Nat} {ds : List Deferred} {a : Act} {E : Env} {x : Operand} {v : Value} (h : HasD n ds a E) (hx : ev E x = some v) : a.eval x = v := by
  rw [← bare_eval]; exact h.bare.ev hx
theorem HasD.put {n d : Nat} {ds : List Deferred} {a : Act} {E : Env} (h : HasD n ds a E) (v : Value) (hd : Nat.blt d n = true) : HasD n ds (a.put (some d) v) ((d, v) :: E) := by
  have := h.bare.put v hd
  exact ⟨this.size, h.defers, this.at_⟩
theorem HasD.sub {n : Nat} {ds : List Deferred} {a : Act} {E E' : Env} (h : HasD n ds a E) (hs : Sub E' E) : HasD n ds a E' := ⟨h.size, h.defers, (h.bare.sub hs).at_⟩

/-- An operation that is carried out in any round as in none. -/
theorem wpIn_move {P : Program} {ro : Option Nat} {m : Nat} {o : Oper} {a b : Act} {w : World} {K' : Act → World → Prop} {Q : Exit → Act → World → Prop} {X : Value → List Sp → World → Prop} (hnd : ∀ c, o.op ≠ .defer c) (hx : execOp a.eval o = execOp b.eval o) (hd : ∀ d, o.dst = some d → d < b.tmps.size)
    (h : o.wp P b w (fun a' w' => ∃ v L', a' = b.put o.dst v ∧ X v L' w') (fun _ _ _ => False)) (hK : ∀ v L' w', X v L' w' → K' (a.put o.dst v) w') : o.wpIn (FW ro) m P a w K' Q := by
  have key : ∀ v0 w', (∃ v L', b.put o.dst v0 = b.put o.dst v ∧ X v L' w') → K' (a.put o.dst v0) w' := by
    rintro v0 w' ⟨v, L', he, hX⟩
    cases hdst : o.dst with
    | none =>
      have := hK v L' w' hX
      rw [hdst] at this
      exact this
    | some d =>
      rw [hdst] at he
      have h1 := congrArg (fun c : Act => c.tmps.getD d undef) he
      simp only [put_slot _ _ _ _ (hd d hdst), if_pos] at h1
      rw [h1]
      have := hK v L' w' hX
      rwa [hdst] at this
  refine ⟨fun _ _ => trivial, ?_⟩
  rw [Oper.semAt_eq ro _ o hnd, hx]
  unfold Oper.wp at h
  revert h
  generalize (execOp b.eval o).run P w = r
  intro h
  unfold Oper.upon at h
  split at h
  · exact key _ _ h
  · exact key _ _ h
  · exfalso
    obtain ⟨v, L', he, _⟩ := h
    have := congrArg Act.defers he
    rw [putO_defers, putO_defers] at this
    exact absurd (congrArg List.length this) (by simp)
  · rw [Oper.uponIn_enter]
    refine ⟨fun h => (by cases h), ?_⟩
    refine CallsIn.mono (show CallsIn (FW ro) (m - 1) P _ _ _ _ from callsIn_wide.2 h) ?_
    intro e w' h'
    cases e with
    | returned v => exact key _ _ h'
    | panicked ch => exact h'.elim
    | outgrown => obtain ⟨_, _, hf⟩ := h'; exact hf.elim
  · rw [Oper.uponIn_row]
    refine ⟨fun h => (by cases h), fun c cs _ => ?_⟩
    obtain ⟨v, w', h1, h2⟩ := h c cs
    exact ⟨v, w', key _ _ h1, stepsIn_wide.2 h2⟩
  · exact h.elim
  · exact h.elim

/-- Where this code stands: in which round, how deep, what has been deferred, what its end must be. -/
structure Ci where
  ro : Option Nat
  dp : Nat
  ds : List Deferred
  R0 : Exit → Act → World → Prop

def QI (P : Program) (i : Ci) : List It → Exit → Act → World → Prop
  | [] => i.R0
  | .code x :: k => Exit.then (x.wpIn (FW i.ro) i.dp P (QI P i k)) (QI P i k)
  | .blk id :: k => Exit.inBlock id (QI P i k)
  | .scp :: k => Exit.noGoto (QI P i k)
  | .lp I :: k => Exit.then I (QI P i k)

def JI (c : Cx) (i : Ci) (k : List It) (E : Env) (L : List Sp) : Prop := c.Ok → ∀ a w, HasD c.n i.ds a E → St c.w0 c.M L w → QI c.P i k .normal a w
def OI (c : Cx) (i : Ci) (ops : Array Oper) (rest : List Oper) (k : List It) (E : Env) (L : List Sp) : Prop :=
  c.Ok → ∀ a w, HasD c.n i.ds a E → St c.w0 c.M L w → wpListIn (FW i.ro) i.dp c.P ops (QI c.P i k) rest a w

section
variable {c : Cx} {i : Ci} {k : List It} {E : Env} {L : List Sp}
theorem JI.seq {x y : Code} (h : JI c i (.code x :: .code y :: k) E L) : JI c i (.code (.seq x y) :: k) E L := fun ok a w ha hs => wpIn_seq (h ok a w ha hs)
theorem JI.block {id : Nat} {x : Code} (h : JI c i (.code x :: .blk id :: k) E L) : JI c i (.code (.block id x) :: k) E L := fun ok a w ha hs => wpIn_block (h ok a w ha hs)
theorem JI.blk {id : Nat} (h : JI c i k E L) : JI c i (.blk id :: k) E L := fun ok a w ha hs => h ok a w ha hs
theorem JI.skip (h : JI c i k E L) : JI c i (.code .skip :: k) E L := fun ok a w ha hs => wpIn_skip (h ok a w ha hs)
theorem JI.condT {x : Operand} {b : Bool} {t f : Code} (hx : ev E x = some (.bool b)) (hb : b = true) (ht : JI c i (.code t :: k) E L) : JI c i (.code (.cond x t f) :: k) E L := fun ok a w ha hs =>
  wpIn_cond_true (by rw [ha.ev hx, hb]) (ht ok a w ha hs)
theorem JI.condF {x : Operand} {b : Bool} {t f : Code} (hx : ev E x = some (.bool b)) (hb : b = false) (hf : JI c i (.code f :: k) E L) : JI c i (.code (.cond x t f) :: k) E L := fun ok a w ha hs =>
  wpIn_cond_false (by rw [ha.ev hx, hb]) (hf ok a w ha hs)
theorem JI.cond {x : Operand} {b : Bool} {t f : Code} (hx : ev E x = some (.bool b)) (ht : b = true → JI c i (.code t :: k) E L) (hf : b = false → JI c i (.code f :: k) E L) :
    JI c i (.code (.cond x t f) :: k) E L := fun ok a w ha hs => wpIn_cond_split (ha.ev hx) (fun e => ht e ok a w ha hs) (fun e => hf e ok a w ha hs)
theorem JI.region {id : Nat} {l : List Oper} (h : OI c i l.toArray l k E L) : JI c i (.code (.region id l.toArray false) :: k) E L := fun ok a w ha hs => wpIn_region_lit (h ok a w ha hs)
theorem OI.nil {ops : Array Oper} (h : JI c i k E L) : OI c i ops [] k E L := fun ok a w ha hs => h ok a w ha hs
theorem JI.trim (E' : Env) (hs : Sub E' E) (h : JI c i k E' L) : JI c i k E L := fun ok a w ha hst => h ok a w (ha.sub hs) hst
theorem JI.sel (is : List Nat) (L' : List Sp) (hn : is.Nodup) (hL : LK.sel L is = L') (h : JI c i k E L') : JI c i k E L := fun ok a w ha hst => h ok a w ha (hL ▸ hst.sel hn)

variable {ops : Array Oper} {rest : List Oper} {o : Op} {ty : TypeId} {d : Nat} {pos : String} {af : Array Edge} {v : Value}

def noDefer : Op → Bool | .defer _ => false | _ => true
theorem noDefer_of {o : Op} (h : noDefer o = true) : ∀ c, o ≠ .defer c := fun c e => by subst e; cases h

theorem OI.l {R : Value → List Sp → Prop} (hl : Lo c E L o ty R) (hd : Nat.blt d c.n = true) (h : ∀ v L', R v L' → OI c i ops rest k ((d, v) :: E) L') (hnd : noDefer o = true := by rfl) : OI c i ops (⟨some d, o, ty, pos, af, none⟩ :: rest) k E L := fun ok a w ha hs =>
  wpListIn_plain rfl fun _ hK => wpIn_move (b := bare a) (X := fun v L' w' => R v L' ∧ St c.w0 c.M L' w') (noDefer_of hnd) (by rw [bare_eval]) (fun d' hd' => by cases hd'; rw [ha.bare.size]; exact Nat.le_of_ble_eq_true hd)
    (hl ok (bare a) w ha.bare hs _ _ _ _ _ _ fun v L' _ hR hs' => ⟨v, L', rfl, hR, hs'⟩) fun v L' w' hX => hK _ _ (h v L' hX.1 ok _ w' (ha.put v hd) hX.2)
theorem OI.l0 {R : Value → List Sp → Prop} (hl : Lo c E L o ty R) (h : ∀ v L', R v L' → OI c i ops rest k E L') (hnd : noDefer o = true := by rfl) : OI c i ops (⟨none, o, ty, pos, af, none⟩ :: rest) k E L := fun ok a w ha hs =>
  wpListIn_plain rfl fun _ hK => wpIn_move (b := bare a) (X := fun v L' w' => R v L' ∧ St c.w0 c.M L' w') (noDefer_of hnd) (by rw [bare_eval]) (fun d' hd' => by cases hd')
    (hl ok (bare a) w ha.bare hs _ _ _ _ _ _ fun v L' _ hR hs' => ⟨v, L', rfl, hR, hs'⟩) fun v L' w' hX => hK _ _ (h v L' hX.1 ok _ w' ha hX.2)
theorem OI.q (hq : Qt c E L o ty v) (hd : Nat.blt d c.n = true) (h : OI c i ops rest k ((d, v) :: E) L) (hnd : noDefer o = true := by rfl) : OI c i ops (⟨some d, o, ty, pos, af, none⟩ :: rest) k E L :=
  OI.l (R := fun u L' => u = v ∧ L' = L) (fun ok a w ha hs d pos af g K Q hK => wp_loud (hq ok a w ha hs _ _ _ _) (hK v L w ⟨rfl, rfl⟩ hs)) hd (by rintro _ _ ⟨rfl, rfl⟩; exact h) hnd
theorem OI.p (hq : Pu c E o ty v) (hd : Nat.blt d c.n = true) (h : OI c i ops rest k ((d, v) :: E) L) (hnd : noDefer o = true := by rfl) : OI c i ops (⟨some d, o, ty, pos, af, none⟩ :: rest) k E L := OI.q hq.qt hd h hnd

theorem QI_exit {P : Program} {i : Ci} {id : Nat} {a : Act} {w : World} : ∀ {k k' : List It}, pop id k = some k' → QI P i k' .normal a w → QI P i k (.exit id) a w
  | [], _, h, _ => by simp [pop] at h
  | .blk j :: k, k', h, hq => by
    simp only [pop] at h
    simp only [QI, Exit.inBlock]
    cases hb : Nat.beq j id
    · rw [hb] at h
      have hne : ¬ id = j := fun e => by subst e; simp at hb
      have := QI_exit (i := i) (a := a) (w := w) (by simpa using h) hq
      simpa [hne] using this
    · rw [hb] at h
      have he : j = id := Nat.eq_of_beq_eq_true hb
      subst he
      simp at h; subst h
      simpa using hq
  | .code x :: k, k', h, hq => QI_exit (k := k) (by simpa [pop] using h) hq
  | .scp :: k, k', h, hq => QI_exit (k := k) (by simpa [pop] using h) hq
  | .lp I :: k, k', h, hq => QI_exit (k := k) (by simpa [pop] using h) hq
theorem JI.exit {id : Nat} (k' : List It) (hp : pop id k = some k') (h : JI c i k' E L) : JI c i (.code (.exit id) :: k) E L := fun ok a w ha hs => wpIn_exit (QI_exit hp (h ok a w ha hs))
theorem QI_ret {P : Program} {i : Ci} {a : Act} {w : World} : ∀ {k : List It}, i.R0 .ret a w → QI P i k .ret a w
  | [], h => h
  | .blk _ :: k, h => QI_ret (k := k) h
  | .code _ :: k, h => QI_ret (k := k) h
  | .scp :: k, h => QI_ret (k := k) h
  | .lp _ :: k, h => QI_ret (k := k) h
theorem JI.ret (h : c.Ok → ∀ a w, HasD c.n i.ds a E → St c.w0 c.M L w → i.R0 .ret a w) : JI c i (.code .ret :: k) E L := fun ok a w ha hs => wpIn_ret (QI_ret (h ok a w ha hs))
theorem JI.done (h : c.Ok → ∀ a w, HasD c.n i.ds a E → St c.w0 c.M L w → i.R0 .normal a w) : JI c i [] E L := h

def invI {X : Type} (c : Cx) (i : Ci) (φ : X → Prop) (EE : X → Env) (LL : X → List Sp) (μ : X → Nat) (m : Nat) (a : Act) (w : World) : Prop :=
  ∃ x, φ x ∧ μ x < m ∧ HasD c.n i.ds a (EE x) ∧ St c.w0 c.M (LL x) w

theorem JI.loop {X : Type} (φ : X → Prop) (EE : X → Env) (LL : X → List Sp) (μ : X → Nat) {x : Code} (x0 : X) (h0 : φ x0) (hE : Sub (EE x0) E) (is : List Nat) (hn : is.Nodup) (hL : LK.sel L is = LL x0)
    (round : ∀ y, φ y → JI c i (.code x :: .lp (invI c i φ EE LL μ (μ y)) :: k) (EE y) (LL y)) : JI c i (.code (.loop x) :: k) E L := fun ok a w ha hs => by
  have hst : St c.w0 c.M (LL x0) w := hL ▸ hs.sel hn
  have hh := ha.sub hE
  show (Code.loop x).wpIn (FW i.ro) i.dp c.P (QI c.P i k) a w
  intro b kk cs hro hb hr
  have key : ∀ m y a w, μ y = m → φ y → HasD c.n i.ds a (EE y) → St c.w0 c.M (LL y) w →
      ∃ e a' w', QI c.P i k e a' w' ∧ ArrivesIn (Machine.fenced c.P (FW i.ro)) c.P (lone (b.atR a (.code x :: .inLoop x :: kk)) cs w) b kk cs e a' w' := by
    intro m
    induction m using Nat.strongRecOn with
    | _ m ih =>
      intro y a w hm hy ha hs
      have hbody : x.wpIn (FW i.ro) i.dp c.P (QI c.P i (.lp (invI c i φ EE LL μ (μ y)) :: k)) a w := round y hy ok a w ha hs
      obtain ⟨e, a₁, w₁, hq, harr⟩ := hbody b (.inLoop x :: kk) cs hro hb hr
      cases e with
      | normal =>
        obtain ⟨y', hy', hlt, ha', hs'⟩ := hq
        obtain ⟨e₂, a₂, w₂, hq₂, harr₂⟩ := ih (μ y') (hm ▸ hlt) y' a₁ w₁ rfl hy' ha' hs'
        exact ⟨e₂, a₂, w₂, hq₂, .of_steps (StepsIn.trans harr (.one (fenced_calm hb hr rfl) stepR_inLoop)) harr₂⟩
      | exit id => exact ⟨_, a₁, w₁, hq, .pass (x := .inLoop x) rfl (fun _ _ => .inl (by simp)) harr⟩
      | goto l => exact ⟨_, a₁, w₁, hq, .pass (x := .inLoop x) rfl (fun _ _ => .inl (by simp)) harr⟩
      | ret => exact ⟨_, a₁, w₁, hq, .pass (x := .inLoop x) rfl (fun _ _ => .inl (by simp)) harr⟩
      | panic ch => exact ⟨_, a₁, w₁, hq, .pass (x := .inLoop x) rfl (fun _ _ => .inl (by simp)) harr⟩
      | outgrown => exact ⟨_, a₁, w₁, hq, .pass (x := .inLoop x) rfl (fun _ _ => .inl (by simp)) harr⟩
  obtain ⟨e, a', w', hq, harr⟩ := key (μ x0) x0 a w rfl h0 hh hst
  exact ⟨e, a', w', hq, .of_steps (.one (fenced_calm hb hr rfl) stepR_loop) harr⟩
theorem JI.lp {X : Type} {φ : X → Prop} {EE : X → Env} {LL : X → List Sp} {μ : X → Nat} {m : Nat} (y : X) (hφ : φ y) (hm : μ y < m) (hE : Sub (EE y) E) (is : List Nat) (hn : is.Nodup) (hL : LK.sel L is = LL y) :
    JI c i (.lp (invI c i φ EE LL μ m) :: k) E L := fun _ _ _ ha hs => ⟨y, hφ, hm, ha.sub hE, hL ▸ hs.sel hn⟩
end
end Go.LK
