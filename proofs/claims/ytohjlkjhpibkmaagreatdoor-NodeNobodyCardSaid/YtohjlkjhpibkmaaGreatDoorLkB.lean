/-
  Several texts in one: Lk13, Lk14.
-/
import Derived.Test.YtohjlkjhpibkmaaGreatDoorLk12
import Derived.RangeFuncRecord
namespace Go.LK
open Go Go.RowKit

/-- The iterator gf (with what it has caught, lb) calls yield on xs, one behind the other, until a round says 'no more'; it turns nothing itself, and reads what is in Ro. -/
def ItC (P : Program) (gf : Nat) (lb : Array Value) (Ro : List Sp) (xs : List (List Value)) : Prop :=
  ∀ (l m : Nat) (J : Nat → World → Prop) (Jx : World → Prop) (W : World), (∀ k W, J k W → ∀ A ∈ Ro, A.holds W) →
    (∀ k x W1, J k W1 → xs[k]? = some x → YieldAt (FW none) (m - 1) P l x.toArray W1 fun e W' => (e = .returned (.bool true) ∧ J (k + 1) W') ∨ (e = .returned (.bool false) ∧ Jx W')) →
    J 0 W → CallsIn (FW none) m P gf (#[.func (.yield l) #[] #[]] ++ lb) W fun e W' => (∃ v, e = .returned v) ∧ (J xs.length W' ∨ Jx W')

def loopRec (fn : FuncId) (tmps : Array Value) (ps : Array Tmp) (assign body : Code) (D : Nat) (st : LoopState) (pe : Option Code) : Loop := { state := st, pending := pe, fn, tmps, params := ps, assign, body, defers := D }

theorem St.putObj {w0 w : World} {M : List Nat} {L : List Sp} (h : St w0 M L w) {i l : Nat} {o o' : Obj} (hi : L[i]? = some (blk l o)) : St w0 M (L.set i (blk l o')) (w.putObj l o') := by
  have hl : w.heap[l]? = some o := h.at_ _ (List.mem_of_getElem? hi)
  have hlt := (Array.getElem?_eq_some_iff.1 hl).1
  refine h.set hi ⟨rfl, rfl, rfl, by simp, fun k _ hk => ?_⟩ (World.putObj_heap_same hlt) (fun k hk => .inl hk)
  exact World.putObj_heap_other (fun e => hk (by simp [blk, e]))

def envP : List Tmp → List Value → Env → Env
  | p :: ps, v :: vs, E => envP ps vs ((p, v) :: E)
  | _, _, E => E

theorem has_params {n : Nat} : ∀ {ps : List Tmp} {vs : List Value} {t : Array Value} {E : Env}, (∀ p ∈ ps, Nat.blt p n = true) → HasD n [] { tmps := t, defers := [] } E → vs.length = ps.length →
    HasD n [] { tmps := (ps.zip vs).foldl (fun t (p, v) => t.setIfInBounds p v) t, defers := [] } (envP ps vs E)
  | [], [], _, _, _, h, _ => h
  | [], _ :: _, _, _, _, _, hl => by simp at hl
  | _ :: _, [], _, _, _, _, hl => by simp at hl
  | p :: ps, v :: vs, t, E, hb, h, hl => by
    have h1 := h.put v (hb p (by simp))
    exact has_params (ps := ps) (vs := vs) (fun q hq => hb q (by simp [hq])) h1 (by simpa using hl)

/-- What a round's end must be. -/
def JK (c : Cx) {X : Type} (rec : LoopState → Option Code → Loop) (l D : Nat) (φ : Nat → X → Prop) (LL : X → List Sp) (k : Nat) (W : World) : Prop :=
  ∃ y, φ k y ∧ St c.w0 c.M (blk l (.loop (rec .ready none)) :: blk D (.deferred (some [])) :: LL y) W
def JX (c : Cx) {Z : Type} (rec : LoopState → Option Code → Loop) (l D : Nat) (ψ : Code → Z → Prop) (LX : Z → List Sp) (W : World) : Prop :=
  ∃ x z, ψ x z ∧ St c.w0 c.M (blk l (.loop (rec .done (some x))) :: blk D (.deferred (some [])) :: LX z) W
def RE (c : Cx) {X Z : Type} (rec : LoopState → Option Code → Loop) (l D : Nat) (φ : Nat → X → Prop) (LL : X → List Sp) (ψ : Code → Z → Prop) (LX : Z → List Sp) (k : Nat) : Exit → Act → World → Prop :=
  roundPost c.P l fun e W' => (e = .returned (.bool true) ∧ JK c rec l D φ LL (k + 1) W') ∨ (e = .returned (.bool false) ∧ JX c rec l D ψ LX W')
def BeginI (c : Cx) (i : Ci) (l : Nat) (body : Code) (a : Act) (w : World) : Prop := ∃ w2, (Instr.beginRound l).run c.P w = .ok () w2 ∧ body.wpIn (FW i.ro) i.dp c.P i.R0 a w2

theorem St.tail {w0 w : World} {M : List Nat} {A : Sp} {L : List Sp} (h : St w0 M (A :: L) w) : St w0 M L w :=
  ⟨h.fr, fun B hB => h.at_ B (List.mem_cons_of_mem _ hB), (List.pairwise_cons.1 h.nd).2, fun k hk => h.mine k (by
    obtain ⟨B, hB, hk⟩ := mem_feet.1 hk
    exact mem_feet.2 ⟨B, List.mem_cons_of_mem _ hB, hk⟩)⟩

theorem QI_ds {P : Program} {i : Ci} {ds : List Deferred} : ∀ {k : List It}, QI P { i with ds := ds } k = QI P i k
  | [] => rfl
  | .code x :: k => by simp only [QI]; rw [QI_ds (k := k)]
  | .blk id :: k => by simp only [QI]; rw [QI_ds (k := k)]
  | .scp :: k => by simp only [QI]; rw [QI_ds (k := k)]
  | .lp I :: k => by simp only [QI]; rw [QI_ds (k := k)]

section
variable {c : Cx} {i : Ci} {k : List It} {E : Env} {L : List Sp}
theorem JI.begin {i' : Ci} {l : Nat} {r : Loop} {body : Code} {L0 : List Sp} (hr : r.state = .ready) (h : JI c i [.code body] E (LK.blk l (.loop { r with state := .busy }) :: L0)) (hds : i'.ds = i.ds := by rfl) : JI c i' [.lp (BeginI c i l body)] E (LK.blk l (.loop r) :: L0) := fun ok a w ha hs => by
  have hl : w.heap[l]? = some (.loop r) := hs.at_ (LK.blk l (.loop r)) (by simp)
  exact ⟨_, run_beginRound hl hr, h ok a _ (hds ▸ ha) (hs.putObj (i := 0) rfl)⟩

theorem RE.next {X Z : Type} {rec : LoopState → Option Code → Loop} {l D : Nat} {φ : Nat → X → Prop} {LL : X → List Sp} {ψ : Code → Z → Prop} {LX : Z → List Sp} {m : Nat} {r : Loop} (y : X) (hy : φ (m + 1) y) (hR : i.R0 = RE c rec l D φ LL ψ LX m) (hrec : { r with state := .ready, pending := none } = rec .ready none)
    (hL : L = blk l (.loop r) :: blk D (.deferred (some [])) :: LL y) : JI c i [] E L := fun _ a w _ hs => by
  subst hL
  have hl : w.heap[l]? = some (.loop r) := hs.at_ (LK.blk l (.loop r)) (by simp)
  show i.R0 .normal a w
  rw [hR]
  refine ⟨_, _, run_endRound none hl, .inl ⟨rfl, y, hy, ?_⟩⟩
  have := hs.putObj (i := 0) (l := l) (o' := .loop { r with state := .ready, pending := none }) rfl
  rw [hrec] at this
  have e2 : (Obj.loop { r with state := .ready, pending := none }) = .loop (rec .ready none) := congrArg _ hrec
  show St c.w0 c.M _ (w.putObj l (Obj.loop { r with state := .ready, pending := none }))
  rw [e2]
  exact this

theorem RE.out {X Z : Type} {rec : LoopState → Option Code → Loop} {l D : Nat} {φ : Nat → X → Prop} {LL : X → List Sp} {ψ : Code → Z → Prop} {LX : Z → List Sp} {m : Nat} {r : Loop} {x : Code} {e : Exit} {a : Act} {w : World} (z : Z) (hz : ψ x z) (hx : (e = .ret ∧ x = .ret) ∨ ∃ id, e = .exit id ∧ x = .exit id)
    (hrec : ∀ x, { r with state := .done, pending := some x } = rec .done (some x)) (hs : St c.w0 c.M (LK.blk l (.loop r) :: LK.blk D (.deferred (some [])) :: LX z) w) : RE c rec l D φ LL ψ LX m e a w := by
  have hl : w.heap[l]? = some (.loop r) := hs.at_ (LK.blk l (.loop r)) (by simp)
  have h1 : St c.w0 c.M (LK.blk l (.loop (rec .done (some x))) :: LK.blk D (.deferred (some [])) :: LX z) (w.putObj l (.loop { r with state := .done, pending := some x })) := by
    have h2 := hs.putObj (i := 0) (l := l) (o' := .loop { r with state := .done, pending := some x }) rfl
    have e2 : (Obj.loop { r with state := .done, pending := some x }) = .loop (rec .done (some x)) := congrArg _ (hrec x)
    rw [e2] at h2 ⊢
    exact h2
  have h3 := run_endRound (P := c.P) (some x) hl
  rcases hx with ⟨rfl, rfl⟩ | ⟨id, rfl, rfl⟩
  · exact ⟨_, _, h3, .inr ⟨rfl, _, z, hz, h1⟩⟩
  · exact ⟨_, _, h3, .inr ⟨rfl, _, z, hz, h1⟩⟩

theorem JI.range {g : Operand} {ps : List Tmp} {assign body : Code} {gf : Nat} {lb : Array Value} {xs : List (List Value)} {RoI : List Sp} {X Z : Type} (φ : Nat → X → Prop) (LL : X → List Sp) (ψ : Code → Z → Prop) (LX : Z → List Sp)
    (hro : i.ro = none) (hg : ev E g = some (.func (.func gf) #[] lb)) (eg : ∀ args w, (callFunc gf args).run c.P w = .ok (.enter gf args) w) (hit : ItC c.P gf lb RoI xs) (hps : ∀ x ∈ xs, x.length = ps.length) (hpn : ps.all (fun p => Nat.blt p c.n) = true)
    (x0 : X) (h0 : φ 0 x0) (is : List Nat) (hn : is.Nodup) (hL : LK.sel L is = LL x0) (hmem : ∀ y, RoOk c (LL y) [] RoI)
    (round : ∀ (l D : Nat) (rec : LoopState → Option Code → Loop) m y x, (∀ s p, (rec s p).state = s) → (∀ s p s' p', { rec s p with state := s', pending := p' } = rec s' p') → φ m y → xs[m]? = some x →
      JI c ⟨some l, i.dp - 1 - 1, [], fun _ _ _ => False⟩ [.code assign, .lp (BeginI c ⟨some l, i.dp - 1 - 1, [], RE c rec l D φ LL ψ LX m⟩ l body)] (envP ps x E) (LK.blk l (.loop (rec .ready none)) :: LK.blk D (.deferred (some [])) :: LL y))
    (done : ∀ l D r y, φ xs.length y → JI c { i with ds := { target := .collected D, args := #[] } :: i.ds } k E (LK.blk l (.loop r) :: LK.blk D (.deferred (some [])) :: LL y))
    (stop : ∀ l D r x z, ψ x z → JI c { i with ds := { target := .collected D, args := #[] } :: i.ds } (.code x :: k) E (LK.blk l (.loop r) :: LK.blk D (.deferred (some [])) :: LX z)) :
    JI c i (.code (.rangeFunc g ps.toArray assign body) :: k) E L := fun ok a w ha hs => by
  have hst : St c.w0 c.M (LL x0) w := hL ▸ hs.sel hn
  show (Code.rangeFunc g ps.toArray assign body).wpIn (FW i.ro) i.dp c.P (QI c.P i k) a w
  refine wpIn_rangeFunc ?_
  intro fn _
  obtain ⟨rec, hrec⟩ : ∃ rec : LoopState → Option Code → Loop, rec = fun st pe => loopRec fn a.tmps ps.toArray assign body w.heap.size st pe := ⟨_, rfl⟩
  have hS1 : ∀ s p, (rec s p).state = s := fun s p => by rw [hrec]; rfl
  have hS2 : ∀ s p s' p', { rec s p with state := s', pending := p' } = rec s' p' := fun s p s' p' => by rw [hrec]; rfl
  have hst1 := (hst.alloc (.deferred (some []))).alloc (.loop (rec .ready none))
  rw [World.size_alloc] at hst1
  have hent := run_enterLoop_outer (P := c.P) (w := w) fn a.tmps ps.toArray assign body
  have haD : ∀ D, HasD c.n ({ target := .collected D, args := #[] } :: i.ds) { a with defers := [{ target := .collected D, args := #[] }] ++ a.defers } E := fun D => ⟨ha.size, by rw [ha.defers]; rfl, ha.at_⟩
  refine ⟨w.heap.size + 1, [{ target := .collected w.heap.size, args := #[] }], (w.alloc (.deferred (some []))).alloc (.loop (rec .ready none)), { target := .fn (.func gf) lb, args := #[.func (.yield (w.heap.size + 1)) #[] #[]] }, (w.alloc (.deferred (some []))).alloc (.loop (rec .ready none)), gf,
    #[.func (.yield (w.heap.size + 1)) #[] #[]] ++ lb, (w.alloc (.deferred (some []))).alloc (.loop (rec .ready none)), ?_, ?_, fun _ _ => trivial, ?_, fun h => (by cases h), ?_⟩
  · rw [hrec]
    show (Instr.enterLoop fn a.tmps ps.toArray assign body i.ro).run c.P w = _
    rw [hro]
    exact hent
  · have he : a.eval (.const (.func (.yield (w.heap.size + 1)) #[] #[])) = .func (.yield (w.heap.size + 1)) #[] #[] := rfl
    simp [resolve, Deferred.ofValue, ha.ev hg, he]
  · simp [invoke, eg]
  · have hro' : FW i.ro = FW none := by rw [hro]
    have hc := hit (w.heap.size + 1) (i.dp - 1) (JK c rec (w.heap.size + 1) w.heap.size φ LL) (JX c rec (w.heap.size + 1) w.heap.size ψ LX) ((w.alloc (.deferred (some []))).alloc (.loop (rec .ready none)))
      (fun m W ⟨y, _, hy⟩ A hA => (hmem y ok W hy.tail.tail A hA).1)
      (fun m x W1 ⟨y, hy, hW⟩ hx => by
        have hl : W1.heap[w.heap.size + 1]? = some (.loop (rec .ready none)) := hW.at_ (LK.blk (w.heap.size + 1) (.loop (rec .ready none))) (by simp)
        have hyl := run_yield (P := c.P) (args := x.toArray) hl (by rw [hrec]; simp [loopRec, hps x (List.mem_of_getElem? hx)])
        have hst2 := round (w.heap.size + 1) w.heap.size rec m y x hS1 hS2 hy hx ok { tmps := (ps.zip x).foldl (fun t (p, v) => t.setIfInBounds p v) a.tmps, defers := [] } W1 (has_params (List.all_eq_true.1 hpn) ⟨ha.size, rfl, ha.at_⟩ (hps x (List.mem_of_getElem? hx))) hW
        have e1 : (rec .ready none).fn = fn := by rw [hrec]; rfl
        have e2 : (rec .ready none).params = ps.toArray := by rw [hrec]; rfl
        have e3 : (rec .ready none).assign = assign := by rw [hrec]; rfl
        have e4 : (rec .ready none).body = body := by rw [hrec]; rfl
        have e5 : (rec .ready none).tmps = a.tmps := by rw [hrec]; rfl
        rw [e1, e2, e3, e4, e5] at hyl
        have e6 : (ps.toArray.zip x.toArray).foldl (fun t (p, v) => t.setIfInBounds p v) a.tmps = (ps.zip x).foldl (fun t (p, v) => t.setIfInBounds p v) a.tmps := by simp
        rw [e6] at hyl
        exact ⟨fn, _, assign, body, hyl, roundIn_of_wpIn trivial hst2⟩)
      ⟨x0, h0, hst1⟩
    rw [hro']
    refine hc.mono ?_
    rintro e W' ⟨⟨v, rfl⟩, hJ⟩
    rcases hJ with ⟨y, hy, hW⟩ | ⟨x, z, hz, hW⟩
    · have hl : W'.heap[w.heap.size + 1]? = some (.loop (rec .ready none)) := hW.at_ (LK.blk (w.heap.size + 1) (.loop (rec .ready none))) (by simp)
      have he := run_endLoop (P := c.P) hl (by rw [hS1]; decide)
      have e1 : (rec .ready none).pending = none := by rw [hrec]; rfl
      rw [e1] at he
      refine ⟨none, _, he, ?_⟩
      have := done (w.heap.size + 1) w.heap.size { rec .ready none with state := .exhausted, pending := none } y hy ok _ _ (haD w.heap.size) (hW.putObj (i := 0) (o' := .loop { rec .ready none with state := .exhausted, pending := none }) rfl)
      rw [QI_ds] at this
      exact this
    · have hl : W'.heap[w.heap.size + 1]? = some (.loop (rec .done (some x))) := hW.at_ (LK.blk (w.heap.size + 1) (.loop (rec .done (some x)))) (by simp)
      have he := run_endLoop (P := c.P) hl (by rw [hS1]; decide)
      have e1 : (rec .done (some x)).pending = some x := by rw [hrec]; rfl
      rw [e1] at he
      refine ⟨some x, _, he, ?_⟩
      have := stop (w.heap.size + 1) w.heap.size { rec .done (some x) with state := .exhausted, pending := some x } x z hz ok _ _ (haD w.heap.size) (hW.putObj (i := 0) (o' := .loop { rec .done (some x) with state := .exhausted, pending := some x }) rfl)
      show x.wpIn (FW none) i.dp c.P (QI c.P i k) _ _
      have h2 : x.wpIn (FW i.ro) i.dp c.P (QI c.P { i with ds := { target := .collected w.heap.size, args := #[] } :: i.ds } k) { a with defers := [{ target := .collected w.heap.size, args := #[] }] ++ a.defers } _ := this
      rw [QI_ds, hro'] at h2
      exact h2
end

/-! ### Code that reads, and calls yield: the world is known as it is -/
def Cx.at (c : Cx) (W : World) : Cx := { c with w0 := W, M := [] }
def JE (c : Cx) (i : Ci) (k : List It) (E : Env) (W : World) : Prop := ∀ a, HasD c.n i.ds a E → QI c.P i k .normal a W
def OE (c : Cx) (i : Ci) (ops : Array Oper) (rest : List Oper) (k : List It) (E : Env) (W : World) : Prop :=
  ∀ a, HasD c.n i.ds a E → wpListIn (FW i.ro) i.dp c.P ops (QI c.P i k) rest a W

section
variable {c : Cx} {i : Ci} {k : List It} {E : Env} {W : World}
theorem JE.seq {x y : Code} (h : JE c i (.code x :: .code y :: k) E W) : JE c i (.code (.seq x y) :: k) E W := fun a ha => wpIn_seq (h a ha)
theorem JE.block {id : Nat} {x : Code} (h : JE c i (.code x :: .blk id :: k) E W) : JE c i (.code (.block id x) :: k) E W := fun a ha => wpIn_block (h a ha)
theorem JE.blk {id : Nat} (h : JE c i k E W) : JE c i (.blk id :: k) E W := fun a ha => h a ha
theorem JE.skip (h : JE c i k E W) : JE c i (.code .skip :: k) E W := fun a ha => wpIn_skip (h a ha)
theorem JE.condT {x : Operand} {b : Bool} {t f : Code} (hx : ev E x = some (.bool b)) (hb : b = true) (ht : JE c i (.code t :: k) E W) : JE c i (.code (.cond x t f) :: k) E W := fun a ha =>
  wpIn_cond_true (by rw [ha.ev hx, hb]) (ht a ha)
theorem JE.condF {x : Operand} {b : Bool} {t f : Code} (hx : ev E x = some (.bool b)) (hb : b = false) (hf : JE c i (.code f :: k) E W) : JE c i (.code (.cond x t f) :: k) E W := fun a ha =>
  wpIn_cond_false (by rw [ha.ev hx, hb]) (hf a ha)
theorem JE.cond {x : Operand} {b : Bool} {t f : Code} (hx : ev E x = some (.bool b)) (ht : b = true → JE c i (.code t :: k) E W) (hf : b = false → JE c i (.code f :: k) E W) :
    JE c i (.code (.cond x t f) :: k) E W := fun a ha => wpIn_cond_split (ha.ev hx) (fun e => ht e a ha) (fun e => hf e a ha)
theorem JE.region {id : Nat} {l : List Oper} (h : OE c i l.toArray l k E W) : JE c i (.code (.region id l.toArray false) :: k) E W := fun a ha => wpIn_region_lit (h a ha)
theorem OE.nil {ops : Array Oper} (h : JE c i k E W) : OE c i ops [] k E W := fun a ha => h a ha
theorem JE.trim (E' : Env) (hs : Sub E' E) (h : JE c i k E' W) : JE c i k E W := fun a ha => h a (ha.sub hs)
theorem JE.exit {id : Nat} (k' : List It) (hp : pop id k = some k') (h : JE c i k' E W) : JE c i (.code (.exit id) :: k) E W := fun a ha => wpIn_exit (QI_exit hp (h a ha))
theorem JE.ret (h : ∀ a, HasD c.n i.ds a E → i.R0 .ret a W) : JE c i (.code .ret :: k) E W := fun a ha => wpIn_ret (QI_ret (h a ha))
theorem JE.done (h : ∀ a, HasD c.n i.ds a E → i.R0 .normal a W) : JE c i [] E W := h
theorem JE.lp {I : Act → World → Prop} (h : ∀ a, HasD c.n i.ds a E → I a W) : JE c i (.lp I :: k) E W := h

variable {ops : Array Oper} {rest : List Oper} {o : Op} {ty : TypeId} {d : Nat} {pos : String} {af : Array Edge} {v : Value}
theorem OE.q (hok : (c.at W).Ok) (hq : Qt (c.at W) E [] o ty v) (hd : Nat.blt d c.n = true) (h : OE c i ops rest k ((d, v) :: E) W) (hnd : noDefer o = true := by rfl) : OE c i ops (⟨some d, o, ty, pos, af, none⟩ :: rest) k E W := fun a ha =>
  wpListIn_plain rfl fun _ hK => wpIn_move (b := bare a) (X := fun u _ w' => u = v ∧ w' = W) (noDefer_of hnd) (by rw [bare_eval]) (fun d' hd' => by cases hd'; rw [ha.bare.size]; exact Nat.le_of_ble_eq_true hd)
    (wp_loud (hq hok (bare a) W ha.bare ⟨Frame.refl W [], fun A hA => (by cases hA), .nil, fun k hk => (by cases hk)⟩ _ _ _ _) ⟨v, [], rfl, rfl, rfl⟩) fun u _ w' hX => by
      obtain ⟨rfl, rfl⟩ := hX
      exact hK _ _ (h _ (ha.put _ hd))

theorem OE.p (hq : Pu c E o ty v) (hd : Nat.blt d c.n = true) (h : OE c i ops rest k ((d, v) :: E) W) (hnd : noDefer o = true := by rfl) : OE c i ops (⟨some d, o, ty, pos, af, none⟩ :: rest) k E W := fun a ha =>
  wpListIn_plain rfl fun _ hK => wpIn_move (b := bare a) (X := fun u _ w' => u = v ∧ w' = W) (noDefer_of hnd) (by rw [bare_eval]) (fun d' hd' => by cases hd'; rw [ha.bare.size]; exact Nat.le_of_ble_eq_true hd)
    (wp_loud (hq (bare a) W ha.bare _ _ _ _) ⟨v, [], rfl, rfl, rfl⟩) fun u _ w' hX => by
      obtain ⟨rfl, rfl⟩ := hX
      exact hK _ _ (h _ (ha.put _ hd))

/-- A call of yield. -/
theorem OE.yield {l m : Nat} {x : Operand} {xs : List Operand} {ts : Array TypeId} {vs : List Value} {K : Bool → World → Prop} (hdp : i.dp = m) (hro : i.ro = none) (hx : ev E x = some (.func (.yield l) #[] #[])) (hxs : xs.map (ev E) = vs.map some)
    (hy : YieldAt (FW none) (m - 1) c.P l vs.toArray W fun e W' => (e = .returned (.bool true) ∧ K true W') ∨ (e = .returned (.bool false) ∧ K false W')) (hd : Nat.blt d c.n = true)
    (h : ∀ b W', K b W' → OE c i ops rest k ((d, .bool b) :: E) W') : OE c i ops (⟨some d, .call { callee := .value x, args := xs.toArray, argTypes := ts }, ty, pos, af, none⟩ :: rest) k E W := fun a ha =>
  wpListIn_plain rfl fun K' hK => by
    subst hdp
    obtain ⟨fn, tmps, assign, body, hrun, hround⟩ := hy
    have hxs' : xs.map a.eval = vs := by
      rw [← bare_eval]; exact ha.bare.evs hxs
    have hexec : (execOp a.eval ⟨some d, .call { callee := .value x, args := xs.toArray, argTypes := ts }, ty, pos, af, none⟩).run c.P W = .ok (.round l fn tmps assign body) W := by
      simp [execOp, resolve, Deferred.ofValue, invoke, ha.ev hx, hxs', callFunc, hrun]
    refine ⟨fun _ _ => trivial, ?_⟩
    rw [Oper.semAt_eq i.ro _ _ (noDefer_of rfl), hexec, Oper.uponIn_round, hro]
    refine ⟨fun h => (by cases h), ?_⟩
    refine RoundIn.mono hround ?_
    rintro e W' (⟨rfl, hk⟩ | ⟨rfl, hk⟩)
    · exact hK _ _ (h _ _ hk _ (ha.put _ hd))
    · exact hK _ _ (h _ _ hk _ (ha.put _ hd))

def invE {X : Type} (c : Cx) (i : Ci) (φ : X → World → Prop) (EE : X → Env) (μ : X → Nat) (m : Nat) (a : Act) (w : World) : Prop := ∃ x, φ x w ∧ μ x < m ∧ HasD c.n i.ds a (EE x)
theorem JE.loop {X : Type} (φ : X → World → Prop) (EE : X → Env) (μ : X → Nat) {x : Code} (x0 : X) (h0 : φ x0 W) (hE : Sub (EE x0) E)
    (round : ∀ y W, φ y W → JE c i (.code x :: .lp (invE c i φ EE μ (μ y)) :: k) (EE y) W) : JE c i (.code (.loop x) :: k) E W := fun a ha => by
  show (Code.loop x).wpIn (FW i.ro) i.dp c.P (QI c.P i k) a W
  intro b kk cs hro hb hr
  have key : ∀ m y a w, μ y = m → φ y w → HasD c.n i.ds a (EE y) →
      ∃ e a' w', QI c.P i k e a' w' ∧ ArrivesIn (Machine.fenced c.P (FW i.ro)) c.P (lone (b.atR a (.code x :: .inLoop x :: kk)) cs w) b kk cs e a' w' := by
    intro m
    induction m using Nat.strongRecOn with
    | _ m ih =>
      intro y a w hm hy ha
      have hbody : x.wpIn (FW i.ro) i.dp c.P (QI c.P i (.lp (invE c i φ EE μ (μ y)) :: k)) a w := round y w hy a ha
      obtain ⟨e, a₁, w₁, hq, harr⟩ := hbody b (.inLoop x :: kk) cs hro hb hr
      cases e with
      | normal =>
        obtain ⟨y', hy', hlt, ha'⟩ := hq
        obtain ⟨e₂, a₂, w₂, hq₂, harr₂⟩ := ih (μ y') (hm ▸ hlt) y' a₁ w₁ rfl hy' ha'
        exact ⟨e₂, a₂, w₂, hq₂, .of_steps (StepsIn.trans harr (.one (fenced_calm hb hr rfl) stepR_inLoop)) harr₂⟩
      | exit id => exact ⟨_, a₁, w₁, hq, .pass (x := .inLoop x) rfl (fun _ _ => .inl (by simp)) harr⟩
      | goto l => exact ⟨_, a₁, w₁, hq, .pass (x := .inLoop x) rfl (fun _ _ => .inl (by simp)) harr⟩
      | ret => exact ⟨_, a₁, w₁, hq, .pass (x := .inLoop x) rfl (fun _ _ => .inl (by simp)) harr⟩
      | panic ch => exact ⟨_, a₁, w₁, hq, .pass (x := .inLoop x) rfl (fun _ _ => .inl (by simp)) harr⟩
      | outgrown => exact ⟨_, a₁, w₁, hq, .pass (x := .inLoop x) rfl (fun _ _ => .inl (by simp)) harr⟩
  obtain ⟨e, a', w', hq, harr⟩ := key (μ x0) x0 a W rfl h0 (ha.sub hE)
  exact ⟨e, a', w', hq, .of_steps (.one (fenced_calm hb hr rfl) stepR_loop) harr⟩
theorem JE.again {X : Type} {φ : X → World → Prop} {EE : X → Env} {μ : X → Nat} {m : Nat} (y : X) (hφ : φ y W) (hm : μ y < m) (hE : Sub (EE y) E) : JE c i (.lp (invE c i φ EE μ m) :: k) E W := fun _ ha => ⟨y, hφ, hm, ha.sub hE⟩
end

theorem args_has {n : Nat} {args : List Value} (hle : Nat.ble args.length n = true) : HasD n [] { tmps := args.toArray ++ Array.replicate (n - args.toArray.size) undef, defers := [] } (envOf 0 args) := by
  have hle' := Nat.le_of_ble_eq_true hle
  refine ⟨by simp; omega, rfl, fun t v ht => ?_⟩
  obtain ⟨_, h2⟩ := look_envOf args 0 t v ht
  simp only [Nat.sub_zero] at h2
  obtain ⟨hlt, rfl⟩ := List.getElem?_eq_some_iff.1 h2
  simp [Array.getD_eq_getD_getElem?, Array.getElem?_append, hlt]

/-- A contract of an iterator, from its body. -/
theorem ItC.enter {P : Program} {gf : Nat} {fn : Func} {body : Code} {lb : List Value} {Ro : List Sp} {xs : List (List Value)} (n : Nat) (hf : P.funcs[gf]? = some fn) (hb : fn.body = some body) (hn : fn.ntmps = n) (hle : Nat.ble (lb.length + 1) n = true) (hrs : fn.results = #[])
    (h : ∀ (l m : Nat) (J : Nat → World → Prop) (Jx : World → Prop) (R0 : Exit → Act → World → Prop) (W : World), (∀ k W, J k W → ∀ A ∈ Ro, A.holds W) →
      (∀ k x W1, J k W1 → xs[k]? = some x → YieldAt (FW none) (m - 1) P l x.toArray W1 fun e W' => (e = .returned (.bool true) ∧ J (k + 1) W') ∨ (e = .returned (.bool false) ∧ Jx W')) → J 0 W →
      (∀ e a w, e = .normal ∨ e = .ret → a.defers = [] → (J xs.length w ∨ Jx w) → R0 e a w) →
      JE { P := P, fn := fn, n := n, w0 := W, M := [], Ro := Ro, R := fun _ _ => True } ⟨none, m, [], R0⟩ [.code body] (envOf 0 (.func (.yield l) #[] #[] :: lb)) W) : ItC P gf lb.toArray Ro xs := by
  intro l m J Jx W hmem hy h0
  have hE : (#[.func (.yield l) #[] #[]] ++ lb.toArray : Array Value) = (.func (.yield l) #[] #[] :: lb : List Value).toArray := by simp
  rw [hE]
  refine callsIn_of_wp hf hb trivial ?_
  have := h l m J Jx (bodyPost P fn fun e W' => (∃ v, e = .returned v) ∧ (J xs.length W' ∨ Jx W')) W hmem hy h0 (fun e a w he hd hJ => by
    have hr : (results fn a.tmps).run P w = .ok (.tuple #[]) w := by
      simp [results, hrs]
    rcases he with rfl | rfl <;> exact ⟨hd, _, hr, ⟨_, rfl⟩, hJ⟩)
  rw [hn]
  exact this _ (args_has (by simpa using hle))

/-! ### A function that holds such a range -/
def RM (c : Cx) (m : Nat) : Exit → Act → World → Prop := bodyPostM (FW none) m c.P c.fn c.R
theorem Tri.enterI {P : Program} {f : FuncId} {fn : Func} {body : Code} {args : List Value} {Ro L : List Sp} {post : Value → List Sp → Prop} (n : Nat) (hf : P.funcs[f]? = some fn) (hb : fn.body = some body) (hn : fn.ntmps = n) (hle : Nat.ble args.length n = true)
    (h : ∀ w, JI { P := P, fn := fn, n := n, w0 := w, M := feet L, Ro := Ro, R := endPost w (feet L) post } ⟨none, 0, [], RM { P := P, fn := fn, n := n, w0 := w, M := feet L, Ro := Ro, R := endPost w (feet L) post } 0⟩ [.code body] (envOf 0 args) L) : Tri P f args.toArray Ro L post := by
  intro w hro hst
  refine callsIn_wide.1 (show CallsIn (FW none) 0 P f _ w _ from callsIn_of_wp_marks hf hb trivial ?_)
  rw [hn]
  exact h w hro _ w (args_has hle) hst

section
variable {c : Cx} {i : Ci} {k : List It} {E : Env} {L : List Sp}
theorem JI.retM {D j : Nat} (hR : i.R0 = RM c i.dp) (hd : i.ds = [{ target := .collected D, args := #[] }]) (hj : L[j]? = some (LK.blk D (.deferred (some [])))) (hf : Fin c E (L.set j (LK.blk D (.deferred none)))) : JI c i (.code .ret :: k) E L :=
  JI.ret fun ok a w ha hs => by
    rw [hR]
    have hl : w.heap[D]? = some (.deferred (some [])) := hs.at_ (LK.blk D (.deferred (some []))) (List.mem_of_getElem? hj)
    have ht := run_takeDeferred (P := c.P) hl
    show LeavesInM (FW none) i.dp c.P c.fn a.tmps c.R a.defers .returning w
    rw [ha.defers, hd]
    refine ⟨by simp, .inl ⟨D, _, rfl, ht, ?_⟩⟩
    have h1 := hs.putObj (o' := .deferred none) hj
    obtain ⟨v, hv, hR'⟩ := hf ok (bare a) _ ha.bare h1
    exact ⟨v, hv, hR'⟩
/-- The end of a round by 'return'. -/
theorem RE.ret {X Z : Type} {rec : LoopState → Option Code → Loop} {l D : Nat} {φ : Nat → X → Prop} {LL : X → List Sp} {ψ : Code → Z → Prop} {LX : Z → List Sp} {m : Nat} {r : Loop} (z : Z) (hz : ψ .ret z) (hR : i.R0 = RE c rec l D φ LL ψ LX m)
    (is : List Nat) (hn : is.Nodup) (hL : LK.sel L is = LK.blk l (.loop r) :: LK.blk D (.deferred (some [])) :: LX z) (hrec : ∀ x, { r with state := .done, pending := some x } = rec .done (some x)) : JI c i (.code .ret :: k) E L :=
  JI.ret fun _ _ _ _ hs => by
    rw [hR]
    exact RE.out z hz (.inl ⟨rfl, rfl⟩) hrec (hL ▸ hs.sel hn)
theorem RE.nextS {X Z : Type} {rec : LoopState → Option Code → Loop} {l D : Nat} {φ : Nat → X → Prop} {LL : X → List Sp} {ψ : Code → Z → Prop} {LX : Z → List Sp} {m : Nat} {r : Loop} (y : X) (hy : φ (m + 1) y) (hR : i.R0 = RE c rec l D φ LL ψ LX m)
    (is : List Nat) (hn : is.Nodup) (hL : LK.sel L is = blk l (.loop r) :: blk D (.deferred (some [])) :: LL y) (hrec : { r with state := .ready, pending := none } = rec .ready none) : JI c i [] E L := JI.sel is _ hn hL (RE.next y hy hR hrec rfl)
end

theorem RoOk.own {c : Cx} {L RoC : List Sp} {A : Sp} (j : Nat) (hj : L[j]? = some A) (h : RoOk c L [] RoC) : RoOk c L [] (A :: RoC) := fun ok w hs B hB => by
  rcases List.mem_cons.1 hB with rfl | hB
  · exact ⟨hs.at_ _ (List.mem_of_getElem? hj), fun k _ hk => by simp [feet] at hk⟩
  · exact h ok w hs B hB

/-! ### slices.Backward -/
end Go.LK

namespace Go.LK
open Go Go.RowKit

theorem Lo.buildE {α : Type} (f : α → List Value) {c : Cx} {E : Env} {L : List Sp} {T t : TypeId} {s : Nat} {ty : TypeId} (hT : ∀ w, (underlying T).run c.P w = .ok (.slice t) w) (hs : ∀ w, (sizeOf t).run c.P w = .ok s w) :
    Lo c E L (.buildSlice T 0 #[]) ty fun v L' => L' = row v t s (([] : List α).map f) :: L := fun _ a w ha hst d pos af g K Q hK => by
  refine wp_loud (v := .slice (some ⟨w.heap.size, 0, none⟩) 0 0) (w' := w.alloc (.cells #[] t)) ?_ (hK _ _ _ rfl (hst.add (frame_alloc w _) ⟨?_, by simp⟩ (by simp [row, Value.ownBlock])))
  · simp only [execOp]
    simp [Instr.buildSlice, hT, hs, Instr.fill, run_newRow]
    rw [show Array.range 0 = #[] from Array.eq_empty_of_size_eq_zero (by simp)]
    simp
  · exact ⟨by simp, .inr ⟨w.heap.size, 0, _, rfl, Nat.zero_le _, heap_alloc_new w _, Nat.le_refl _, by simp [maxLen], by simp, by simp⟩⟩
/-! ### A cut: what follows a piece of code is shown once, whatever way through the piece was taken -/
end Go.LK
