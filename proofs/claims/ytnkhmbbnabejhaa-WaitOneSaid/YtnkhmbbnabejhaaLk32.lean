/-
  Ranges over functions whose order is not known beforehand: an iterator that has blocks of its own, and calls yield on one after another of what is left.
-/
import Derived.Test.YtnkhmbbnabejhaaLk31
namespace Go.LK
open Go Go.RowKit

/-- The iterator gf (with what it has caught, lb) calls yield: on x behind those of vs where 'nx vs x'; where it ends by itself, 'full' holds of all. What it reads is in Ro; what the rounds own it leaves alone. -/
def ItN (P : Program) (gf : Nat) (lb : Array Value) (Ro : List Sp) (nx : List (List Value) → List Value → Prop) (full : List (List Value) → Prop) : Prop :=
  ∀ (l m : Nat) (X Z : Type) (φ : List (List Value) → X → Prop) (LL : X → List Sp) (ψ : Z → Prop) (LX : Z → List Sp) (Rx : List Sp) (W : World) (y0 : X),
    (∀ A ∈ Ro ++ Rx, A.holds W ∧ ∀ k ∈ A.foot, k ∉ feet (LL y0)) →
    (∀ vs y x W1, φ vs y → nx vs x → (∀ A ∈ Ro ++ Rx, A.holds W1 ∧ ∀ k ∈ A.foot, k ∉ feet (LL y)) → St W1 (feet (LL y)) (LL y) W1 →
      YieldAt (FW none) (m - 1) P l x.toArray W1 fun e W' => (e = .returned (.bool true) ∧ ∃ y', φ (vs ++ [x]) y' ∧ St W1 (feet (LL y)) (LL y') W') ∨ (e = .returned (.bool false) ∧ ∃ z, ψ z ∧ St W1 (feet (LL y)) (LX z) W')) →
    φ [] y0 → St W (feet (LL y0)) (LL y0) W →
    CallsIn (FW none) m P gf (#[.func (.yield l) #[] #[]] ++ lb) W fun e W' => (∃ v, e = .returned v) ∧ ((∃ vs y, full vs ∧ φ vs y ∧ St W (feet (LL y0)) (LL y) W') ∨ ∃ z, ψ z ∧ St W (feet (LL y0)) (LX z) W')

theorem Cx.roAll {c : Cx} (ok : c.Ok) {L : List Sp} {w : World} (hs : St c.w0 c.M L w) : ∀ A ∈ c.Ro, A.holds w ∧ ∀ k ∈ A.foot, k ∉ feet L := fun A hA => by
  obtain ⟨i, hi⟩ := List.mem_iff_getElem?.1 hA
  refine ⟨c.ro ok hs hi, fun k hk hk' => ?_⟩
  obtain ⟨h1, h2⟩ := ok A hA
  rcases hs.mine k hk' with h3 | h3
  · have := A.lt _ h1 k hk; omega
  · exact h2 k hk h3
theorem St.own {w0 w : World} {M : List Nat} {L R : List Sp} (h : St w0 M (L ++ R) w) : St w (feet L) L w := by
  have hpw := List.pairwise_append.1 h.nd
  exact ⟨Frame.refl w _, fun A hA => h.at_ A (by simp [hA]), hpw.1, fun k hk => .inr hk⟩
theorem St.back {w0 w w' : World} {M : List Nat} {L L' R : List Sp} (h : St w0 M (L ++ R) w) (h' : St w (feet L) L' w') : St w0 M (L' ++ R) w' :=
  h.step h'.fr h'.at_ h'.nd (fun k hk => (h'.mine k hk).symm)

section
variable {c : Cx} {i : Ci} {k : List It} {E : Env} {L : List Sp} {ops : Array Oper} {rest : List Oper} {ty : TypeId} {d : Nat} {pos : String} {af : Array Edge}
/-- A call of yield: what the rounds own stands behind the iterator's own. -/
theorem OI.yieldN {l m : Nat} {x : Operand} {xs : List Operand} {ts : Array TypeId} {vs : List Value} (R LC : List Sp) {K : Bool → List Sp → Prop} (hdp : i.dp = m) (hro : i.ro = none) (hx : ev E x = some (.func (.yield l) #[] #[])) (hxs : xs.map (ev E) = vs.map some) (hL : L = R ++ LC)
    (hy : c.Ok → ∀ W1, St c.w0 c.M L W1 → St W1 (feet LC) LC W1 → YieldAt (FW none) (m - 1) c.P l vs.toArray W1 fun e W' => ∃ b L', e = .returned (.bool b) ∧ K b L' ∧ St W1 (feet LC) L' W') (hd : Nat.blt d c.n = true)
    (h : ∀ b L', K b L' → OI c i ops rest k ((d, .bool b) :: E) (R ++ L')) : OI c i ops (⟨some d, .call { callee := .value x, args := xs.toArray, argTypes := ts }, ty, pos, af, none⟩ :: rest) k E L := fun ok a w ha hs =>
  wpListIn_plain rfl fun K' hK => by
    subst hdp hL
    have hs1 : St c.w0 c.M (LC ++ R) w := hs.perm List.perm_append_comm
    obtain ⟨fn, tmps, assign, body, hrun, hround⟩ := hy ok w hs hs1.own
    have hxs' : xs.map a.eval = vs := by
      rw [← bare_eval]; exact ha.bare.evs hxs
    have hexec : (execOp a.eval ⟨some d, .call { callee := .value x, args := xs.toArray, argTypes := ts }, ty, pos, af, none⟩).run c.P w = .ok (.round l fn tmps assign body) w := by
      simp [execOp, resolve, Deferred.ofValue, invoke, ha.ev hx, hxs', callFunc, hrun]
    refine ⟨fun _ _ => trivial, ?_⟩
    rw [Oper.semAt_eq i.ro _ _ (noDefer_of rfl), hexec, Oper.uponIn_round, hro]
    refine ⟨fun h => (by cases h), ?_⟩
    refine RoundIn.mono hround ?_
    rintro e W' ⟨b, L', rfl, hk, hst⟩
    exact hK _ _ (h b L' hk ok _ W' (ha.put _ hd) ((hs1.back hst).perm List.perm_append_comm))

/-- A contract of such an iterator, from its body. -/
theorem ItN.enter {P : Program} {gf : Nat} {fn : Func} {body : Code} {lb : List Value} {Ro : List Sp} {nx : List (List Value) → List Value → Prop} {full : List (List Value) → Prop} (n : Nat) (hf : P.funcs[gf]? = some fn) (hb : fn.body = some body) (hn : fn.ntmps = n) (hle : Nat.ble (lb.length + 1) n = true) (hrs : fn.results = #[])
    (h : ∀ (l m : Nat) (X Z : Type) (φ : List (List Value) → X → Prop) (LL : X → List Sp) (ψ : Z → Prop) (LX : Z → List Sp) (Rx : List Sp) (W : World) (y0 : X),
      (∀ A ∈ Ro ++ Rx, A.holds W ∧ ∀ k ∈ A.foot, k ∉ feet (LL y0)) →
      (∀ vs y x W1, φ vs y → nx vs x → (∀ A ∈ Ro ++ Rx, A.holds W1 ∧ ∀ k ∈ A.foot, k ∉ feet (LL y)) → St W1 (feet (LL y)) (LL y) W1 →
        YieldAt (FW none) (m - 1) P l x.toArray W1 fun e W' => (e = .returned (.bool true) ∧ ∃ y', φ (vs ++ [x]) y' ∧ St W1 (feet (LL y)) (LL y') W') ∨ (e = .returned (.bool false) ∧ ∃ z, ψ z ∧ St W1 (feet (LL y)) (LX z) W')) →
      φ [] y0 → ∀ R0 : Exit → Act → World → Prop, (∀ e a w, e = .normal ∨ e = .ret → a.defers = [] → ((∃ vs y, full vs ∧ φ vs y ∧ St W (feet (LL y0)) (LL y) w) ∨ ∃ z, ψ z ∧ St W (feet (LL y0)) (LX z) w) → R0 e a w) →
      ∃ Ro' : List Sp, (∀ A ∈ Ro', A.holds W ∧ ∀ k ∈ A.foot, k ∉ feet (LL y0)) ∧
        JI { P := P, fn := fn, n := n, w0 := W, M := feet (LL y0), Ro := Ro', R := fun _ _ => True } ⟨none, m, [], R0⟩ [.code body] (envOf 0 (.func (.yield l) #[] #[] :: lb)) (LL y0)) : ItN P gf lb.toArray Ro nx full := by
  intro l m X Z φ LL ψ LX Rx W y0 hro hy h0 hst
  have hE : (#[.func (.yield l) #[] #[]] ++ lb.toArray : Array Value) = (.func (.yield l) #[] #[] :: lb : List Value).toArray := by simp
  rw [hE]
  refine callsIn_of_wp hf hb trivial ?_
  obtain ⟨Ro', hok, hj⟩ := h l m X Z φ LL ψ LX Rx W y0 hro hy h0 (bodyPost P fn fun e W' => (∃ v, e = .returned v) ∧ ((∃ vs y, full vs ∧ φ vs y ∧ St W (feet (LL y0)) (LL y) W') ∨ ∃ z, ψ z ∧ St W (feet (LL y0)) (LX z) W')) (fun e a w he hd hJ => by
    have hr : (results fn a.tmps).run P w = .ok (.tuple #[]) w := by
      simp [results, hrs]
    rcases he with rfl | rfl <;> exact ⟨hd, _, hr, ⟨_, rfl⟩, hJ⟩)
  rw [hn]
  exact hj hok _ W (args_has (by simpa using hle)) hst

theorem JI.rangeN {g : Operand} {ps : List Tmp} {assign body : Code} {gf : Nat} {lb : Array Value} {RoI : List Sp} {nx : List (List Value) → List Value → Prop} {full : List (List Value) → Prop} {X Z : Type} (φ : List (List Value) → X → Prop) (LL : X → List Sp) (ψ : Code → Z → Prop) (LX : Z → List Sp)
    (hro : i.ro = none) (hg : ev E g = some (.func (.func gf) #[] lb)) (eg : ∀ args w, (callFunc gf args).run c.P w = .ok (.enter gf args) w) (hit : ItN c.P gf lb RoI nx full) (hps : ∀ vs x, nx vs x → x.length = ps.length) (hpn : ps.all (fun p => Nat.blt p c.n) = true)
    (x0 : X) (h0 : φ [] x0) (is : List Nat) (hn : is.Nodup) (hL : LK.sel L is = LL x0) (hsub : ∀ A ∈ RoI, A ∈ c.Ro)
    (round : ∀ (W1 : World) (M1 : List Nat) (l D : Nat) (rec : LoopState → Option Code → Loop) vs y x, (∀ s p, (rec s p).state = s) → (∀ s p s' p', { rec s p with state := s', pending := p' } = rec s' p') → φ vs y → nx vs x →
      JI { c with w0 := W1, M := M1 } ⟨some l, i.dp - 1 - 1, [], fun _ _ _ => False⟩ [.code assign, .lp (BeginI { c with w0 := W1, M := M1 } ⟨some l, i.dp - 1 - 1, [], RE { c with w0 := W1, M := M1 } rec l D (fun _ y => φ (vs ++ [x]) y) LL ψ LX 0⟩ l body)] (envP ps x E) (LK.blk l (.loop (rec .ready none)) :: LK.blk D (.deferred (some [])) :: LL y))
    (done : ∀ l D r vs y, full vs → φ vs y → JI c { i with ds := { target := .collected D, args := #[] } :: i.ds } k E (LK.blk l (.loop r) :: LK.blk D (.deferred (some [])) :: LL y))
    (stop : ∀ l D r x z, ψ x z → JI c { i with ds := { target := .collected D, args := #[] } :: i.ds } (.code x :: k) E (LK.blk l (.loop r) :: LK.blk D (.deferred (some [])) :: LX z)) :
    JI c i (.code (.rangeFunc g ps.toArray assign body) :: k) E L := fun ok a w ha hs => by
  have hst : St c.w0 c.M (LL x0) w := hL ▸ hs.sel hn
  show (Code.rangeFunc g ps.toArray assign body).wpIn (FW i.ro) i.dp c.P (QI c.P i k) a w
  refine wpIn_rangeFunc ?_
  intro fn _
  obtain ⟨rec, hrec⟩ : ∃ rec : LoopState → Option Code → Loop, rec = fun st pe => loopRec fn a.tmps ps.toArray assign body w.heap.size st pe := ⟨_, rfl⟩
  have hS1 : ∀ s p, (rec s p).state = s := fun s p => by rw [hrec]; rfl
  have hS2 : ∀ s p s' p', { rec s p with state := s', pending := p' } = rec s' p' := fun s p s' p' => by rw [hrec]; rfl
  have hst1 := (hst.alloc (.deferred (some []))).alloc (.loop (rec .ready none))
  rw [World.size_alloc] at hst1
  have hent := run_enterLoop_outer (P := c.P) (w := w) fn a.tmps ps.toArray assign body
  have haD : ∀ D, HasD c.n ({ target := .collected D, args := #[] } :: i.ds) { a with defers := [{ target := .collected D, args := #[] }] ++ a.defers } E := fun D => ⟨ha.size, by rw [ha.defers]; rfl, ha.at_⟩
  refine ⟨w.heap.size + 1, [{ target := .collected w.heap.size, args := #[] }], (w.alloc (.deferred (some []))).alloc (.loop (rec .ready none)), { target := .fn (.func gf) lb, args := #[.func (.yield (w.heap.size + 1)) #[] #[]] }, (w.alloc (.deferred (some []))).alloc (.loop (rec .ready none)), gf,
    #[.func (.yield (w.heap.size + 1)) #[] #[]] ++ lb, (w.alloc (.deferred (some []))).alloc (.loop (rec .ready none)), ?_, ?_, fun _ _ => trivial, ?_, fun h => (by cases h), ?_⟩
  · rw [hrec]
    show (Instr.enterLoop fn a.tmps ps.toArray assign body i.ro).run c.P w = _
    rw [hro]
    exact hent
  · have he : a.eval (.const (.func (.yield (w.heap.size + 1)) #[] #[])) = .func (.yield (w.heap.size + 1)) #[] #[] := rfl
    simp [resolve, Deferred.ofValue, ha.ev hg, he]
  · simp [invoke, eg]
  · have hro' : FW i.ro = FW none := by rw [hro]
    have hst2 : St c.w0 c.M ((LK.blk (w.heap.size + 1) (.loop (rec .ready none)) :: LK.blk w.heap.size (.deferred (some [])) :: LL x0) ++ []) ((w.alloc (.deferred (some []))).alloc (.loop (rec .ready none))) := by rw [List.append_nil]; exact hst1
    have hc := hit (w.heap.size + 1) (i.dp - 1) X (Code × Z) φ (fun y => LK.blk (w.heap.size + 1) (.loop (rec .ready none)) :: LK.blk w.heap.size (.deferred (some [])) :: LL y) (fun z => ψ z.1 z.2) (fun z => LK.blk (w.heap.size + 1) (.loop (rec .done (some z.1))) :: LK.blk w.heap.size (.deferred (some [])) :: LX z.2) c.Ro ((w.alloc (.deferred (some []))).alloc (.loop (rec .ready none))) x0
      (fun A hA => by
        have hA' : A ∈ c.Ro := by
          rcases List.mem_append.1 hA with h | h
          · exact hsub A h
          · exact h
        exact Cx.roAll ok hst1 A hA')
      (fun vs y x W1 hy hx hR hW => by
        have hl : W1.heap[w.heap.size + 1]? = some (.loop (rec .ready none)) := hW.at_ (LK.blk (w.heap.size + 1) (.loop (rec .ready none))) (by simp)
        have hyl := run_yield (P := c.P) (args := x.toArray) hl (by rw [hrec]; simp [loopRec, hps vs x hx])
        have hst2 := round W1 (feet (LK.blk (w.heap.size + 1) (.loop (rec .ready none)) :: LK.blk w.heap.size (.deferred (some [])) :: LL y)) (w.heap.size + 1) w.heap.size rec vs y x hS1 hS2 hy hx (fun A hA => hR A (List.mem_append.2 (.inr hA))) { tmps := (ps.zip x).foldl (fun t (p, v) => t.setIfInBounds p v) a.tmps, defers := [] } W1 (has_params (List.all_eq_true.1 hpn) ⟨ha.size, rfl, ha.at_⟩ (hps vs x hx)) hW
        have e1 : (rec .ready none).fn = fn := by rw [hrec]; rfl
        have e2 : (rec .ready none).params = ps.toArray := by rw [hrec]; rfl
        have e3 : (rec .ready none).assign = assign := by rw [hrec]; rfl
        have e4 : (rec .ready none).body = body := by rw [hrec]; rfl
        have e5 : (rec .ready none).tmps = a.tmps := by rw [hrec]; rfl
        rw [e1, e2, e3, e4, e5] at hyl
        have e6 : (ps.toArray.zip x.toArray).foldl (fun t (p, v) => t.setIfInBounds p v) a.tmps = (ps.zip x).foldl (fun t (p, v) => t.setIfInBounds p v) a.tmps := by simp
        rw [e6] at hyl
        have hri : RoundIn (FW none) (i.dp - 1 - 1) c.P (w.heap.size + 1) fn ((ps.zip x).foldl (fun t (p, v) => t.setIfInBounds p v) a.tmps) assign body W1 (fun e W' => (e = .returned (.bool true) ∧ JK { c with w0 := W1, M := feet (LK.blk (w.heap.size + 1) (.loop (rec .ready none)) :: LK.blk w.heap.size (.deferred (some [])) :: LL y) } rec (w.heap.size + 1) w.heap.size (fun _ y => φ (vs ++ [x]) y) LL (0 + 1) W') ∨ (e = .returned (.bool false) ∧ JX { c with w0 := W1, M := feet (LK.blk (w.heap.size + 1) (.loop (rec .ready none)) :: LK.blk w.heap.size (.deferred (some [])) :: LL y) } rec (w.heap.size + 1) w.heap.size ψ LX W')) := roundIn_of_wpIn trivial hst2
        refine ⟨fn, _, assign, body, hyl, RoundIn.mono hri ?_⟩
        rintro e W' (⟨rfl, y', hy', hs'⟩ | ⟨rfl, x', z, hz, hs'⟩)
        · exact .inl ⟨rfl, y', hy', hs'⟩
        · exact .inr ⟨rfl, (x', z), hz, hs'⟩)
      h0 hst2.own
    rw [hro']
    refine hc.mono ?_
    rintro e W' ⟨⟨v, rfl⟩, hJ⟩
    rcases hJ with ⟨vs, y, hfull, hy, hW0⟩ | ⟨⟨x, z⟩, hz, hW0⟩
    · have hW : St c.w0 c.M (LK.blk (w.heap.size + 1) (.loop (rec .ready none)) :: LK.blk w.heap.size (.deferred (some [])) :: LL y) W' := by
        have := hst2.back hW0
        rwa [List.append_nil] at this
      have hl : W'.heap[w.heap.size + 1]? = some (.loop (rec .ready none)) := hW.at_ (LK.blk (w.heap.size + 1) (.loop (rec .ready none))) (by simp)
      have he := run_endLoop (P := c.P) hl (by rw [hS1]; decide)
      have e1 : (rec .ready none).pending = none := by rw [hrec]; rfl
      rw [e1] at he
      refine ⟨none, _, he, ?_⟩
      have := done (w.heap.size + 1) w.heap.size { rec .ready none with state := .exhausted, pending := none } vs y hfull hy ok _ _ (haD w.heap.size) (hW.putObj (i := 0) (o' := .loop { rec .ready none with state := .exhausted, pending := none }) rfl)
      rw [QI_ds] at this
      exact this
    · have hW : St c.w0 c.M (LK.blk (w.heap.size + 1) (.loop (rec .done (some x))) :: LK.blk w.heap.size (.deferred (some [])) :: LX z) W' := by
        have := hst2.back hW0
        rwa [List.append_nil] at this
      have hl : W'.heap[w.heap.size + 1]? = some (.loop (rec .done (some x))) := hW.at_ (LK.blk (w.heap.size + 1) (.loop (rec .done (some x)))) (by simp)
      have he := run_endLoop (P := c.P) hl (by rw [hS1]; decide)
      have e1 : (rec .done (some x)).pending = some x := by rw [hrec]; rfl
      rw [e1] at he
      refine ⟨some x, _, he, ?_⟩
      have := stop (w.heap.size + 1) w.heap.size { rec .done (some x) with state := .exhausted, pending := some x } x z hz ok _ _ (haD w.heap.size) (hW.putObj (i := 0) (o' := .loop { rec .done (some x) with state := .exhausted, pending := some x }) rfl)
      show x.wpIn (FW none) i.dp c.P (QI c.P i k) _ _
      have h2 : x.wpIn (FW i.ro) i.dp c.P (QI c.P { i with ds := { target := .collected w.heap.size, args := #[] } :: i.ds } k) { a with defers := [{ target := .collected w.heap.size, args := #[] }] ++ a.defers } _ := this
      rw [QI_ds, hro'] at h2
      exact h2
end
end Go.LK
