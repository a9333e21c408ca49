/-
  The judgement: a control stack, a symbolic frame, spatial atoms; the rules for control; what an operation yields (quiet), or does (loud).
-/
import Derived.Test.YtohjlkjhpibkmaaGreatDoorLk1
namespace Go.LK
open Go Go.RowKit

structure Cx where
  P : Program
  fn : Func
  n : Nat
  w0 : World
  M : List Nat
  Ro : List Sp
  R : Ending → World → Prop

/-- What may be read, and is not written: it held when the call began, and lies beside what may be written. -/
def Cx.Ok (c : Cx) : Prop := ∀ A ∈ c.Ro, A.holds c.w0 ∧ ∀ k ∈ A.foot, k ∉ c.M

theorem Cx.ro {c : Cx} (h : c.Ok) {w : World} {L : List Sp} (s : St c.w0 c.M L w) {i : Nat} {A : Sp} (hi : c.Ro[i]? = some A) : A.holds w := by
  obtain ⟨h1, h2⟩ := h A (List.mem_of_getElem? hi)
  exact A.loc c.w0 w (fun k hk => s.fr.old k (A.lt _ h1 k hk) (h2 k hk)) h1

inductive It where
  | code (c : Code)
  | blk (id : Nat)
  | scp
  | lp (I : Act → World → Prop)

def Qof (P : Program) (R0 : Exit → Act → World → Prop) : List It → Exit → Act → World → Prop
  | [] => R0
  | .code c :: k => Exit.then (c.wp P (Qof P R0 k)) (Qof P R0 k)
  | .blk id :: k => Exit.inBlock id (Qof P R0 k)
  | .scp :: k => Exit.noGoto (Qof P R0 k)
  | .lp I :: k => Exit.then I (Qof P R0 k)

abbrev Cx.Q (c : Cx) (k : List It) : Exit → Act → World → Prop := Qof c.P (bodyPost c.P c.fn c.R) k

def J (c : Cx) (k : List It) (E : Env) (L : List Sp) : Prop := c.Ok → ∀ a w, Has c.n a E → St c.w0 c.M L w → c.Q k .normal a w

def O (c : Cx) (ops : Array Oper) (rest : List Oper) (k : List It) (E : Env) (L : List Sp) : Prop :=
  c.Ok → ∀ a w, Has c.n a E → St c.w0 c.M L w → wpList c.P ops (c.Q k) rest a w

section
variable {c : Cx} {k : List It} {E : Env} {L : List Sp}

theorem J.seq {x y : Code} (h : J c (.code x :: .code y :: k) E L) : J c (.code (.seq x y) :: k) E L := fun ok a w ha hs => wp_seq (h ok a w ha hs)
theorem J.block {id : Nat} {x : Code} (h : J c (.code x :: .blk id :: k) E L) : J c (.code (.block id x) :: k) E L := fun ok a w ha hs => wp_block (h ok a w ha hs)
theorem J.blk {id : Nat} (h : J c k E L) : J c (.blk id :: k) E L := fun ok a w ha hs => h ok a w ha hs
theorem J.scope {x : Code} (h : J c (.code x :: .scp :: k) E L) : J c (.code (.scope x) :: k) E L := fun ok a w ha hs => wp_scope_straight (h ok a w ha hs)
theorem J.scp (h : J c k E L) : J c (.scp :: k) E L := fun ok a w ha hs => h ok a w ha hs
theorem J.skip (h : J c k E L) : J c (.code .skip :: k) E L := fun ok a w ha hs => wp_skip (h ok a w ha hs)
theorem J.label {l : Nat} (h : J c k E L) : J c (.code (.label l) :: k) E L := fun ok a w ha hs => wp_label (h ok a w ha hs)

def pop (id : Nat) : List It → Option (List It)
  | [] => none
  | .blk i :: k => bif Nat.beq i id then some k else pop id k
  | .code _ :: k => pop id k
  | .scp :: k => pop id k
  | .lp _ :: k => pop id k

theorem Q_exit {P : Program} {R0 : Exit → Act → World → Prop} {id : Nat} {a : Act} {w : World} : ∀ {k k' : List It}, pop id k = some k' → Qof P R0 k' .normal a w → Qof P R0 k (.exit id) a w
  | [], _, h, _ => by simp [pop] at h
  | .blk i :: k, k', h, hq => by
    simp only [pop] at h
    simp only [Qof, Exit.inBlock]
    cases hb : Nat.beq i id
    · rw [hb] at h
      have hne : i ≠ id := fun e => by subst e; simp at hb
      rw [if_neg (Ne.symm hne)]
      exact Q_exit h hq
    · rw [hb] at h
      have he := Nat.eq_of_beq_eq_true hb
      subst he
      cases h
      rw [if_pos rfl]
      exact hq
  | .code _ :: k, k', h, hq => Q_exit (k := k) h hq
  | .scp :: k, k', h, hq => Q_exit (k := k) h hq
  | .lp _ :: k, k', h, hq => Q_exit (k := k) h hq

theorem Q_ret {P : Program} {R0 : Exit → Act → World → Prop} {a : Act} {w : World} : ∀ {k : List It}, R0 .ret a w → Qof P R0 k .ret a w
  | [], h => h
  | .blk _ :: k, h => Q_ret (k := k) h
  | .code _ :: k, h => Q_ret (k := k) h
  | .scp :: k, h => Q_ret (k := k) h
  | .lp _ :: k, h => Q_ret (k := k) h

theorem J.exit {id : Nat} (k' : List It) (hp : pop id k = some k') (h : J c k' E L) : J c (.code (.exit id) :: k) E L := fun ok a w ha hs => wp_exit (Q_exit hp (h ok a w ha hs))

theorem J.cond {x : Operand} {b : Bool} {t f : Code} (hx : ev E x = some (.bool b)) (ht : b = true → J c (.code t :: k) E L) (hf : b = false → J c (.code f :: k) E L) :
    J c (.code (.cond x t f) :: k) E L := fun ok a w ha hs =>
  wp_cond_split (ha.ev hx) (fun e => ht e ok a w ha hs) (fun e => hf e ok a w ha hs)
theorem J.condT {x : Operand} {b : Bool} {t f : Code} (hx : ev E x = some (.bool b)) (hb : b = true) (ht : J c (.code t :: k) E L) :
    J c (.code (.cond x t f) :: k) E L := fun ok a w ha hs => wp_cond_true (by rw [ha.ev hx, hb]) (ht ok a w ha hs)
theorem J.condF {x : Operand} {b : Bool} {t f : Code} (hx : ev E x = some (.bool b)) (hb : b = false) (hf : J c (.code f :: k) E L) :
    J c (.code (.cond x t f) :: k) E L := fun ok a w ha hs => wp_cond_false (by rw [ha.ev hx, hb]) (hf ok a w ha hs)

theorem J.region {id : Nat} {l : List Oper} (h : O c l.toArray l k E L) : J c (.code (.region id l.toArray false) :: k) E L := fun ok a w ha hs => wp_region_lit (h ok a w ha hs)

theorem O.nil {ops : Array Oper} (h : J c k E L) : O c ops [] k E L := fun ok a w ha hs => h ok a w ha hs

/-- The frame is forgotten but for these slots. -/
theorem J.trim (E' : Env) (hs : Sub E' E) (h : J c k E' L) : J c k E L := fun ok a w ha hst => h ok a w (ha.sub hs) hst
/-- The atoms in another order, or fewer. -/
theorem J.sel (is : List Nat) (L' : List Sp) (hn : is.Nodup) (hL : LK.sel L is = L') (h : J c k E L') : J c k E L := fun ok a w ha hst => h ok a w ha (hL ▸ hst.sel hn)
theorem O.sel {ops : Array Oper} {rest : List Oper} (is : List Nat) (L' : List Sp) (hn : is.Nodup) (hL : LK.sel L is = L') (h : O c ops rest k E L') : O c ops rest k E L := fun ok a w ha hst => h ok a w ha (hL ▸ hst.sel hn)
theorem O.trim {ops : Array Oper} {rest : List Oper} (E' : Env) (hs : Sub E' E) (h : O c ops rest k E' L) : O c ops rest k E L := fun ok a w ha hst => h ok a w (ha.sub hs) hst

/-! ### Loops -/
def inv {X : Type} (c : Cx) (φ : X → Prop) (EE : X → Env) (LL : X → List Sp) (μ : X → Nat) (m : Nat) (a : Act) (w : World) : Prop :=
  ∃ x, φ x ∧ μ x < m ∧ Has c.n a (EE x) ∧ St c.w0 c.M (LL x) w

theorem J.loop {X : Type} (φ : X → Prop) (EE : X → Env) (LL : X → List Sp) (μ : X → Nat) {x : Code} (x0 : X) (h0 : φ x0) (hE : Sub (EE x0) E) (is : List Nat) (hn : is.Nodup) (hL : LK.sel L is = LL x0)
    (round : ∀ y, φ y → J c (.code x :: .lp (inv c φ EE LL μ (μ y)) :: k) (EE y) (LL y)) : J c (.code (.loop x) :: k) E L := fun ok a w ha hs => by
  have hst : St c.w0 c.M (LL x0) w := hL ▸ hs.sel hn
  have hh := ha.sub hE
  intro b kk cs
  have key : ∀ m y a w, μ y = m → φ y → Has c.n a (EE y) → St c.w0 c.M (LL y) w →
      ∃ e a' w', c.Q k e a' w' ∧ Arrives c.P (lone (b.at a (.code x :: .inLoop x :: kk)) cs w) b kk cs e a' w' := by
    intro m
    induction m using Nat.strongRecOn with
    | _ m ih =>
      intro y a w hm hφ ha hs
      obtain ⟨e, a₁, w₁, hq, harr⟩ := round y hφ ok a w ha hs b (.inLoop x :: kk) cs
      cases e with
      | normal =>
        obtain ⟨y', hφ', hlt, ha', hs'⟩ := hq
        obtain ⟨e₂, a₂, w₂, hq₂, harr₂⟩ := ih (μ y') (hm ▸ hlt) y' a₁ w₁ rfl hφ' ha' hs'
        exact ⟨e₂, a₂, w₂, hq₂, .of_steps (Steps.trans harr (.one step_inLoop)) harr₂⟩
      | exit id => exact ⟨_, a₁, w₁, hq, .pass (x := .inLoop x) rfl (fun _ _ => .inl (by simp)) harr⟩
      | goto l => exact ⟨_, a₁, w₁, hq, .pass (x := .inLoop x) rfl (fun _ _ => .inl (by simp)) harr⟩
      | ret => exact ⟨_, a₁, w₁, hq, .pass (x := .inLoop x) rfl (fun _ _ => .inl (by simp)) harr⟩
      | panic ch => exact ⟨_, a₁, w₁, hq, .pass (x := .inLoop x) rfl (fun _ _ => .inl (by simp)) harr⟩
      | outgrown => exact ⟨_, a₁, w₁, hq, .pass (x := .inLoop x) rfl (fun _ _ => .inl (by simp)) harr⟩
  obtain ⟨e, a', w', hq, harr⟩ := key _ x0 a w rfl h0 hh hst
  exact ⟨e, a', w', hq, .of_steps (.one step_loop) harr⟩

theorem J.lp {X : Type} {φ : X → Prop} {EE : X → Env} {LL : X → List Sp} {μ : X → Nat} {m : Nat} (y : X) (hφ : φ y) (hm : μ y < m) (hE : Sub (EE y) E) (is : List Nat) (hn : is.Nodup) (hL : LK.sel L is = LL y) :
    J c (.lp (inv c φ EE LL μ m) :: k) E L := fun _ _ _ ha hs => ⟨y, hφ, hm, ha.sub hE, hL ▸ hs.sel hn⟩

/-! ### Ends -/
def Fin (c : Cx) (E : Env) (L : List Sp) : Prop := c.Ok → ∀ a w, Has c.n a E → St c.w0 c.M L w → ∃ v, (results c.fn a.tmps).run c.P w = .ok v w ∧ c.R (.returned v) w
theorem J.ret (h : Fin c E L) : J c (.code .ret :: k) E L := fun ok a w ha hs =>
  wp_ret (Q_ret (by obtain ⟨v, h1, h2⟩ := h ok a w ha hs; exact ⟨ha.defers, v, h1, h2⟩))
theorem J.done (h : Fin c E L) : J c [] E L := fun ok a w ha hs => by
  obtain ⟨v, h1, h2⟩ := h ok a w ha hs
  exact ⟨ha.defers, v, h1, h2⟩

/-! ### Contracts -/
/-- Called in a world in which Ro may be read (and is not among what may be written) and L is the caller's to hand over: it returns; what it hands back, and what it leaves of L, is as 'post' says; nothing else has turned. -/
def Tri (P : Program) (f : FuncId) (args : Array Value) (Ro L : List Sp) (post : Value → List Sp → Prop) : Prop :=
  ∀ w, (∀ A ∈ Ro, A.holds w ∧ ∀ k ∈ A.foot, k ∉ feet L) → St w (feet L) L w →
    Calls P f args w fun e w' => ∃ v L', e = .returned v ∧ post v L' ∧ St w (feet L) L' w'

abbrev endPost (w : World) (M : List Nat) (post : Value → List Sp → Prop) : Ending → World → Prop := fun e w' => ∃ v L', e = .returned v ∧ post v L' ∧ St w M L' w'

def envOf : Nat → List Value → Env
  | _, [] => []
  | i, v :: vs => (i, v) :: envOf (i + 1) vs

theorem look_envOf (vs : List Value) : ∀ (i t : Nat) (v : Value), look (envOf i vs) t = some v → i ≤ t ∧ vs[t - i]? = some v := by
  induction vs with
  | nil => intro i t v h; simp [envOf, look] at h
  | cons u vs ih =>
    intro i t v h
    simp only [envOf, look_cons] at h
    by_cases e : i = t
    · subst e; simp at h; subst h; simp
    · rw [if_neg e] at h
      obtain ⟨h1, h2⟩ := ih (i + 1) t v h
      refine ⟨by omega, ?_⟩
      rw [show t - i = (t - (i + 1)) + 1 from by omega]
      simpa using h2

theorem Tri.enter {P : Program} {f : FuncId} {fn : Func} {body : Code} {args : List Value} {Ro L : List Sp} {post : Value → List Sp → Prop} (n : Nat) (hf : P.funcs[f]? = some fn) (hb : fn.body = some body) (hn : fn.ntmps = n) (hle : Nat.ble args.length n = true)
    (h : ∀ w, J { P := P, fn := fn, n := n, w0 := w, M := feet L, Ro := Ro, R := endPost w (feet L) post } [.code body] (envOf 0 args) L) : Tri P f args.toArray Ro L post := by
  intro w hro hst
  refine calls_of_wp hf hb ?_
  have hle' := Nat.le_of_ble_eq_true hle
  have := h w hro { tmps := args.toArray ++ Array.replicate (fn.ntmps - args.toArray.size) undef, defers := [] } w ⟨by simp [hn]; omega, rfl, ?_⟩ hst
  · exact Code.wp_mono (fun e a w q => by cases e <;> exact q) this
  · intro t v ht
    obtain ⟨_, h2⟩ := look_envOf args 0 t v ht
    simp only [Nat.sub_zero] at h2
    obtain ⟨hlt, rfl⟩ := List.getElem?_eq_some_iff.1 h2
    simp [Array.getD_eq_getD_getElem?, Array.getElem?_append, hlt]

end
end Go.LK
