/-
  Regions that draw their order, with loud operations (calls, new blocks, stores) among them: one walk serves every order, if the loud ones come up in one order,
  and if what comes up quietly (in any class of worlds that holds the atoms K) may be held back as long as one likes.
  The walk goes in an eager order: a quiet operation comes up as soon as it may. 'mixB' is the check.
-/
import Derived.Test.YtohjlkjhpibkmaaGreatDoorLkA
namespace Go.LK
open Go Go.RowKit

def extD (d : Option Nat) (v : Value) (E : Env) : Env := match d with | some d => (d, v) :: E | none => E

def LoudX (c : Cx) (E : Env) (L : List Sp) (ops : Array Oper) (o : Oper) (R : Value → List Sp → Prop) : Prop :=
  c.Ok → ∀ a w, Has c.n a E → St c.w0 c.M L w →
    (Region.wanted o (yielded ops a.tmps) = true ∧ o.wp c.P a w (fun a' w' => ∃ v L', a' = a.put o.dst v ∧ R v L' ∧ St c.w0 c.M L' w') (fun _ _ _ => False)) ∨
    (Region.wanted o (yielded ops a.tmps) = false ∧ R undef L)

def Keeps (c : Cx) (L K : List Sp) : Prop := ∀ w, St c.w0 c.M L w → St c.w0 c.M K w

/-- An operation that looks at nothing but the frame. -/
def pureO (o : Oper) : Bool := match o.op, o.guard with
  | .move _, none => true
  | .assign _, none => true
  | .extract _ _, none => true
  | _, _ => false
def pureA (ops : Array Oper) (j : Nat) : Bool := match ops[j]? with
  | some o => pureO o
  | none => false
/-- Operation i waits for all of these, by one edge, two or three. -/
def allB (ops : Array Oper) (i : Nat) (seen : List Nat) : Bool := seen.all fun j => (waits ops i j || seen.any fun m => waits ops i m && (waits ops m j || seen.any fun q => waits ops m q && waits ops q j)) || pureA ops j
/-- The walk, in the order 'ord' (true: loud). -/
def Mx (c : Cx) (ops : Array Oper) (T : Env → List Sp → Prop) : List Nat → List (Nat × Bool) → Env → List Sp → List Sp → Prop
  | _, [], E, _, L => T E L
  | seen, (i, false) :: rest, E, K, L => ∃ o d v, ops[i]? = some o ∧ o.dst = some d ∧ Nat.blt d c.n = true ∧ Out c E K ops o v ∧ (pureO o = true → Out c E [] ops o v) ∧ Mx c ops T (i :: seen) rest ((d, v) :: E) K L
  | seen, (i, true) :: rest, E, K, L => ∃ o, ops[i]? = some o ∧ (∀ d, o.dst = some d → Nat.blt d c.n = true) ∧
      LoudX c E L ops o fun v L' => ∃ K', Keeps c L' K' ∧ (allB ops i seen = true ∨ Keeps c K' K) ∧ Mx c ops T (i :: seen) rest (extD o.dst v E) K' L'

def ordB (ops : Array Oper) : List Nat → List Nat → List (Nat × Bool) → Bool
  | _, _, [] => true
  | seen, since, (i, b) :: rest =>
    (match ops[i]? with | none => false | some o => o.after.all fun e => !Region.binds .any e || seen.contains e.on) && !seen.contains i &&
    (since.isEmpty || since.any fun j => waits ops i j) && ordB ops (i :: seen) (bif b then [i] else bif since.isEmpty then [] else i :: since) rest

def confB (ops : Array Oper) : Bool :=
  (List.range ops.size).all fun i => (List.range ops.size).all fun j => i == j || match ops[i]?, ops[j]? with
    | some o, some p => match p.dst with
      | some t => o.dst != some t && (!(o.looksAt ops).contains t || waits ops i j || waits ops j i)
      | none => true
    | _, _ => false

def mixB (ops : Array Oper) (ord : List (Nat × Bool)) : Bool :=
  (ops.all fun o => match o.op with | .select .. => false | _ => true) && (List.range ops.size).all (fun i => (ord.map (·.1)).contains i) && ordB ops [] [] ord && confB ops

theorem ord_sound {ops : Array Oper} : ∀ {rest : List (Nat × Bool)} {seen since : List Nat}, ordB ops seen since rest = true →
    (∀ q1 x q2, rest = q1 ++ x :: q2 → ∀ j, waits ops x.1 j = true → j ∈ seen ∨ j ∈ q1.map (·.1)) ∧ ((rest.map (·.1)).Nodup ∧ ∀ x ∈ rest, x.1 ∉ seen) ∧
    (since ≠ [] → ∀ q1 x q2, rest = q1 ++ x :: q2 → ∃ j, waits ops x.1 j = true ∧ (j ∈ since ∨ j ∈ q1.map (·.1))) ∧
    (∀ q1 l q2 x q3, rest = q1 ++ (l, true) :: (q2 ++ x :: q3) → ∃ j, waits ops x.1 j = true ∧ (j = l ∨ j ∈ q2.map (·.1)))
  | [], _, _, _ => ⟨fun q1 x q2 h => by simp at h, ⟨by simp, by simp⟩, fun _ q1 x q2 h => by simp at h, fun q1 l q2 x q3 h => by simp at h⟩
  | (i, b) :: rest, seen, since, h => by
    simp only [ordB, Bool.and_eq_true] at h
    obtain ⟨⟨⟨h1, h2⟩, h3⟩, h4⟩ := h
    obtain ⟨ia, ⟨ib, ib2⟩, ic, id⟩ := ord_sound h4
    refine ⟨fun q1 x q2 hq j hw => ?_, ⟨?_, fun x hx => ?_⟩, fun hne q1 x q2 hq => ?_, fun q1 l q2 x q3 hq => ?_⟩
    · cases q1 with
      | nil =>
        simp at hq
        obtain ⟨rfl, rfl⟩ := hq
        refine .inl ?_
        unfold waits at hw
        cases ho : ops[i]? with
        | none => rw [ho] at h1; simp at h1
        | some o =>
          simp only [ho] at hw h1
          obtain ⟨e, he, hb⟩ := Array.any_eq_true'.1 hw
          simp only [Bool.and_eq_true, beq_iff_eq] at hb
          have := Array.all_eq_true_iff_forall_mem.1 h1 e he
          rw [hb.1] at this
          rw [← hb.2]
          simpa using this
      | cons y q1 =>
        simp at hq
        obtain ⟨rfl, rfl⟩ := hq
        rcases ia q1 x q2 rfl j hw with h5 | h5
        · rcases List.mem_cons.1 h5 with rfl | h5
          · exact .inr (by simp)
          · exact .inl h5
        · exact .inr (List.mem_cons_of_mem _ h5)
    · simp only [List.map_cons, List.nodup_cons]
      refine ⟨fun hi => ?_, ib⟩
      obtain ⟨x, hx, hxi⟩ := List.mem_map.1 hi
      exact ib2 x hx (by rw [hxi]; simp)
    · rcases List.mem_cons.1 hx with rfl | hx
      · simpa using h2
      · exact fun hs => ib2 x hx (List.mem_cons_of_mem _ hs)
    · cases q1 with
      | nil =>
        simp at hq
        obtain ⟨rfl, rfl⟩ := hq
        have hne' : since.isEmpty = false := by cases since <;> simp_all
        rw [hne', Bool.false_or] at h3
        obtain ⟨j, hj, hw⟩ := List.any_eq_true.1 h3
        exact ⟨j, hw, .inl hj⟩
      | cons y q1 =>
        simp at hq
        obtain ⟨rfl, rfl⟩ := hq
        have hne' : since.isEmpty = false := by cases since <;> simp_all
        obtain ⟨j, hw, hj⟩ := ic (by cases b <;> simp [hne']) q1 x q2 rfl
        refine ⟨j, hw, ?_⟩
        rcases hj with hj | hj
        · cases b
          · simp [hne'] at hj
            rcases hj with rfl | hj
            · exact .inr (by simp)
            · exact .inl hj
          · simp at hj; subst hj; exact .inr (by simp)
        · exact .inr (List.mem_cons_of_mem _ hj)
    · cases q1 with
      | nil =>
        simp at hq
        obtain ⟨⟨rfl, rfl⟩, rfl⟩ := hq
        obtain ⟨j, hw, hj⟩ := ic (by simp) q2 x q3 rfl
        refine ⟨j, hw, ?_⟩
        rcases hj with hj | hj
        · simp at hj; exact .inl hj
        · exact .inr hj
      | cons y q1 =>
        simp at hq
        obtain ⟨rfl, rfl⟩ := hq
        exact id q1 l q2 x q3 (by simp)

theorem ord_there {ops : Array Oper} : ∀ {rest : List (Nat × Bool)} {seen since : List Nat}, ordB ops seen since rest = true → ∀ x ∈ rest, x.1 < ops.size
  | [], _, _, _, x, hx => by simp at hx
  | (i, b) :: rest, seen, since, h, x, hx => by
    simp only [ordB, Bool.and_eq_true] at h
    rcases List.mem_cons.1 hx with rfl | hx
    · cases ho : ops[i]? with
      | none => simp [ho] at h
      | some o => exact (Array.getElem?_eq_some_iff.1 ho).1
    · exact ord_there h.2 x hx
theorem mixAll {ops : Array Oper} {ord : List (Nat × Bool)} (h : mixB ops ord = true) : ∀ x ∈ ord, x.1 < ops.size := by
  simp only [mixB, Bool.and_eq_true] at h
  exact ord_there h.1.2

structure MixOk (ops : Array Oper) (ord : List (Nat × Bool)) : Prop where
  nosel : ∀ (j : Nat) (o : Oper) cs b, ops[j]? = some o → o.op ≠ .select cs b
  all : ∀ i, i < ops.size → i ∈ ord.map (·.1)
  back : ∀ q1 x q2, ord = q1 ++ x :: q2 → ∀ j, waits ops x.1 j = true → j ∈ q1.map (·.1)
  nd : (ord.map (·.1)).Nodup
  since : ∀ q1 l q2 x q3, ord = q1 ++ (l, true) :: (q2 ++ x :: q3) → ∃ j, waits ops x.1 j = true ∧ (j = l ∨ j ∈ q2.map (·.1))
  conf : ∀ i j o p t, i ≠ j → ops[i]? = some o → ops[j]? = some p → p.dst = some t → o.dst ≠ some t ∧ (t ∈ o.looksAt ops → waits ops i j = true ∨ waits ops j i = true)

theorem mix_of {ops : Array Oper} {ord : List (Nat × Bool)} (h : mixB ops ord = true) : MixOk ops ord := by
  simp only [mixB, Bool.and_eq_true] at h
  obtain ⟨⟨⟨h1, h2⟩, h3⟩, h4⟩ := h
  obtain ⟨ha, ⟨hb, _⟩, _, hd⟩ := ord_sound h3
  refine ⟨fun j o cs b ho heq => by
    have h2 := Array.all_eq_true_iff_forall_mem.1 h1 o (Array.mem_of_getElem? ho)
    simp [heq] at h2, fun i hi => by simpa using List.all_eq_true.1 h2 i (List.mem_range.2 hi), fun q1 x q2 hq j hw => (ha q1 x q2 hq j hw).resolve_left (by simp), hb, hd, fun i j o p t hne ho hp ht => ?_⟩
  have hi : i < ops.size := (Array.getElem?_eq_some_iff.1 ho).1
  have hj : j < ops.size := (Array.getElem?_eq_some_iff.1 hp).1
  have h5 := List.all_eq_true.1 (List.all_eq_true.1 h4 i (List.mem_range.2 hi)) j (List.mem_range.2 hj)
  have hne' : (i == j) = false := by simpa using hne
  rw [hne', Bool.false_or, ho, hp] at h5
  simp only [ht, Bool.and_eq_true, Bool.or_eq_true] at h5
  refine ⟨by simpa using h5.1, fun hm => ?_⟩
  rcases h5.2 with (h6 | h6) | h6
  · simp [hm] at h6
  · exact .inl h6
  · exact .inr h6

structure En where
  i : Nat
  q : Bool
  o : Oper
  v : Value
  E : Env
  K : List Sp

def acts : List En → Act → Act
  | [], a => a
  | e :: es, a => acts es (a.put e.o.dst e.v)

theorem putO_size (a : Act) (d : Option Nat) (v : Value) : (a.put d v).tmps.size = a.tmps.size := by cases d <;> simp [Act.put]
theorem putO_defers (a : Act) (d : Option Nat) (v : Value) : (a.put d v).defers = a.defers := by cases d <;> rfl
theorem putO_other (a : Act) (d : Option Nat) (v : Value) (t : Nat) (h : d ≠ some t) : (a.put d v).tmps.getD t undef = a.tmps.getD t undef := by
  cases d with
  | none => rfl
  | some d =>
    have : d ≠ t := fun e => h (by rw [e])
    simp only [Act.put]
    rw [Array.getD_eq_getD_getElem?, Array.getD_eq_getD_getElem?, Array.getElem?_setIfInBounds_ne this]
theorem acts_size : ∀ (es : List En) (a : Act), (acts es a).tmps.size = a.tmps.size
  | [], _ => rfl
  | e :: es, a => by rw [acts, acts_size es, putO_size]
theorem acts_app : ∀ (es fs : List En) (a : Act), acts (es ++ fs) a = acts fs (acts es a)
  | [], _, _ => rfl
  | e :: es, fs, a => by simp only [List.cons_append, acts, acts_app es]
theorem acts_other : ∀ (es : List En) (a : Act) (t : Nat), (∀ e ∈ es, e.o.dst ≠ some t) → (acts es a).tmps.getD t undef = a.tmps.getD t undef
  | [], _, _, _ => rfl
  | e :: es, a, t, h => by rw [acts, acts_other es _ t (fun f hf => h f (by simp [hf])), putO_other _ _ _ _ (h e (by simp))]
theorem acts_at : ∀ (es : List En) (a : Act) (t : Nat) (v : Value), t < a.tmps.size → (∀ e ∈ es, e.o.dst = some t → e.v = v) → (∃ e ∈ es, e.o.dst = some t) → (acts es a).tmps.getD t undef = v
  | [], _, _, _, _, _, h => by obtain ⟨e, he, _⟩ := h; simp at he
  | e :: es, a, t, v, ht, hv, h => by
    by_cases h2 : ∃ f ∈ es, f.o.dst = some t
    · exact acts_at es _ t v (by rw [putO_size]; exact ht) (fun f hf => hv f (by simp [hf])) h2
    · obtain ⟨f, hf, hft⟩ := h
      rcases List.mem_cons.1 hf with rfl | hf
      · rw [acts, acts_other es _ t (fun g hg hgt => h2 ⟨g, hg, hgt⟩), hft, put_slot _ _ _ _ ht, if_pos rfl]
        exact hv f (by simp) hft
      · exact absurd ⟨f, hf, hft⟩ h2
theorem nodup_inj : ∀ {es : List En}, (es.map En.i).Nodup → ∀ {e f : En}, e ∈ es → f ∈ es → e.i = f.i → e = f
  | [], _, _, _, he, _, _ => by simp at he
  | g :: es, h, e, f, he, hf, hi => by
    simp only [List.map_cons, List.nodup_cons] at h
    rcases List.mem_cons.1 he with h1 | h1 <;> rcases List.mem_cons.1 hf with h2 | h2
    · rw [h1, h2]
    · exact absurd (List.mem_map.2 ⟨f, h2, by rw [← hi, h1]⟩) h.1
    · exact absurd (List.mem_map.2 ⟨e, h1, by rw [hi, h2]⟩) h.1
    · exact nodup_inj h.2 h1 h2 hi

theorem wp_move {P : Program} {o : Oper} {a b : Act} {w : World} {K' : Act → World → Prop} {Q : Exit → Act → World → Prop} {X : Value → List Sp → World → Prop} (hx : execOp a.eval o = execOp b.eval o) (hd : ∀ d, o.dst = some d → d < b.tmps.size)
    (h : o.wp P b w (fun a' w' => ∃ v L', a' = b.put o.dst v ∧ X v L' w') (fun _ _ _ => False)) (hK : ∀ v L' w', X v L' w' → K' (a.put o.dst v) w') : o.wp P a w K' Q := by
  have key : ∀ v0 w', (∃ v L', b.put o.dst v0 = b.put o.dst v ∧ X v L' w') → K' (a.put o.dst v0) w' := by
    rintro v0 w' ⟨v, L', he, hX⟩
    cases hdst : o.dst with
    | none =>
      have := hK v L' w' hX
      rw [hdst] at this
      exact this
    | some d =>
      rw [hdst] at he
      have h1 := congrArg (fun c : Act => c.tmps.getD d undef) he
      simp only [put_slot _ _ _ _ (hd d hdst), if_pos] at h1
      rw [h1]
      have := hK v L' w' hX
      rwa [hdst] at this
  unfold Oper.wp at h ⊢
  rw [hx]
  revert h
  generalize (execOp b.eval o).run P w = r
  intro h
  unfold Oper.upon at h ⊢
  split at h
  · exact key _ _ h
  · exact key _ _ h
  · exfalso
    obtain ⟨v, L', he, _⟩ := h
    have := congrArg Act.defers he
    rw [putO_defers, putO_defers] at this
    exact absurd (congrArg List.length this) (by simp)
  · refine Calls.mono h ?_
    intro e w' h'
    cases e with
    | returned v => exact key _ _ h'
    | panicked ch => exact h'.elim
    | outgrown => obtain ⟨_, _, hf⟩ := h'; exact hf.elim
  · exact Rows.mono h fun v w' h' => key _ _ h'
  · exact h.elim
  · exact h.elim

theorem keep_nil {c : Cx} {K : List Sp} {w : World} (h : St c.w0 c.M K w) : St c.w0 c.M [] w := by simpa [LK.sel] using h.sel (is := []) (by simp)
theorem keep_if {c : Cx} {K : List Sp} {w : World} {b : Bool} (h : St c.w0 c.M K w) : St c.w0 c.M (if b = true then [] else K) w := by split; exact keep_nil h; exact h
/-- A block of quiet operations comes up. -/
theorem mx_unroll {c : Cx} {ops : Array Oper} {T : Env → List Sp → Prop} {K L : List Sp} : ∀ {rest : List (Nat × Bool)} {seen : List Nat} {E : Env} {b : Act}, Mx c ops T seen rest E K L → Has c.n b E → ∃ (qs : List En) (rest' : List (Nat × Bool)) (E' : Env),
    rest = qs.map (fun e => (e.i, !e.q)) ++ rest' ∧ (rest' = [] ∨ ∃ i r, rest' = (i, true) :: r) ∧ Mx c ops T ((qs.map En.i).reverse ++ seen) rest' E' K L ∧ Has c.n (acts qs b) E' ∧ (∀ e ∈ qs, e.q = true) ∧
    ∀ p1 e p2, qs = p1 ++ e :: p2 → ops[e.i]? = some e.o ∧ (∀ d, e.o.dst = some d → Nat.blt d c.n = true) ∧ Has c.n (acts p1 b) e.E ∧ Out c e.E e.K ops e.o e.v ∧ e.K = (if pureO e.o = true then [] else K)
  | [], _, E, b, h, hb => ⟨[], [], E, rfl, .inl rfl, h, hb, by simp, fun p1 e p2 hp => by simp at hp⟩
  | (i, true) :: rest, _, E, b, h, hb => ⟨[], (i, true) :: rest, E, rfl, .inr ⟨i, rest, rfl⟩, h, hb, by simp, fun p1 e p2 hp => by simp at hp⟩
  | (i, false) :: rest, seen, E, b, h, hb => by
    obtain ⟨o, d, v, ho, hd, hdn, hout0, hout1, hm⟩ := h
    have hout : Out c E (if pureO o = true then [] else K) ops o v := by split; exact hout1 ‹_›; exact hout0
    have hb' : Has c.n (b.put o.dst v) ((d, v) :: E) := by rw [hd]; exact hb.put v hdn
    obtain ⟨qs, rest', E', h1, h2, h3, h4, h5, h6⟩ := mx_unroll hm hb'
    refine ⟨⟨i, true, o, v, E, if pureO o = true then [] else K⟩ :: qs, rest', E', by simp [h1], h2, by simpa using h3, h4, fun e he => ?_, fun p1 e p2 hp => ?_⟩
    · rcases List.mem_cons.1 he with rfl | he
      · rfl
      · exact h5 e he
    · cases p1 with
      | nil =>
        simp at hp
        obtain ⟨rfl, rfl⟩ := hp
        exact ⟨ho, fun d' hd' => by rw [hd] at hd'; cases hd'; exact hdn, hb, hout, rfl⟩
      | cons y p1 =>
        simp at hp
        obtain ⟨rfl, rfl⟩ := hp
        exact h6 p1 e p2 rfl

structure MInv (c : Cx) (ops : Array Oper) (ord : List (Nat × Bool)) (T : Env → List Sp → Prop) (a0 : Act) (pre : List En) (rest : List (Nat × Bool)) (E : Env) (K L : List Sp) (listed : Array Bool) (a : Act) (w : World) : Prop where
  ho : ord = pre.map (fun e => (e.i, !e.q)) ++ rest
  hr : rest = [] ∨ ∃ i r, rest = (i, true) :: r
  mx : Mx c ops T (pre.map En.i).reverse rest E K L
  st : St c.w0 c.M L w
  kk : Keeps c L K
  has : Has c.n (acts pre a0) E
  en : ∀ p1 e p2, pre = p1 ++ e :: p2 → ops[e.i]? = some e.o ∧ (∀ d, e.o.dst = some d → Nat.blt d c.n = true) ∧ (e.q = true → Has c.n (acts p1 a0) e.E ∧ Out c e.E e.K ops e.o e.v ∧ (listed.getD e.i false = false → Keeps c K e.K) ∧ (pureO e.o = true → e.K = []))
  size : listed.size = ops.size
  only : ∀ i, listed.getD i false = true → ∃ e ∈ pre, e.i = i
  loud : ∀ e ∈ pre, e.q = false → listed.getD e.i false = true
  closed : ∀ i j, listed.getD i false = true → waits ops i j = true → listed.getD j false = true
  at1 : ∀ e ∈ pre, listed.getD e.i false = true → ∀ d, e.o.dst = some d → a.tmps.getD d undef = e.v
  at2 : ∀ t, (∀ e ∈ pre, listed.getD e.i false = true → e.o.dst ≠ some t) → a.tmps.getD t undef = a0.tmps.getD t undef
  tsize : a.tmps.size = a0.tmps.size
  defers : a.defers = a0.defers

section
variable {c : Cx} {ops : Array Oper} {ord : List (Nat × Bool)} {T : Env → List Sp → Prop} {a0 : Act} {pre : List En} {rest : List (Nat × Bool)} {E : Env} {K L : List Sp} {listed : Array Bool} {a : Act} {w : World}

theorem MInv.op (I : MInv c ops ord T a0 pre rest E K L listed a w) {e : En} (he : e ∈ pre) : ops[e.i]? = some e.o ∧ ∀ d, e.o.dst = some d → Nat.blt d c.n = true := by
  obtain ⟨p1, p2, hp⟩ := List.append_of_mem he
  exact ⟨(I.en p1 e p2 hp).1, (I.en p1 e p2 hp).2.1⟩

theorem MInv.nd (I : MInv c ops ord T a0 pre rest E K L listed a w) (G : MixOk ops ord) : (pre.map En.i).Nodup := by
  have := G.nd
  rw [I.ho, List.map_append] at this
  have h := (List.nodup_append.1 this).1
  rwa [List.map_map] at h

/-- What the next operation looks at is as it is in the walk. -/
theorem MInv.looks (I : MInv c ops ord T a0 pre rest E K L listed a w) (G : MixOk ops ord) (hn : a0.tmps.size = c.n) {p1 p2 : List En} (hp : pre = p1 ++ p2) {i : Nat} {b : Bool} {tl : List (Nat × Bool)} (hord : ord = p1.map (fun e => (e.i, !e.q)) ++ (i, b) :: tl)
    {o : Oper} (ho : ops[i]? = some o) (hu : listed.getD i false = false) (hr : i ∈ Region.ready .any ops listed) : ∀ t ∈ o.looksAt ops, a.tmps.getD t undef = (acts p1 a0).tmps.getD t undef := by
  intro t ht
  have hnd : ∀ e ∈ p1, e.i ≠ i := fun e he hei => by
    have := G.nd
    rw [hord, List.map_append, List.map_cons, List.map_map] at this
    have h1 := (List.nodup_append.1 this).2.2 e.i (List.mem_map.2 ⟨e, he, rfl⟩) i (by simp)
    exact h1 hei
  have hinj := I.nd G
  by_cases hex : ∃ j p, ops[j]? = some p ∧ p.dst = some t ∧ i ≠ j
  · obtain ⟨j, p, hj, hpt, hne⟩ := hex
    have huniq : ∀ e ∈ pre, e.o.dst = some t → e.i = j := fun e he het => by
      by_cases hej : e.i = j
      · exact hej
      · exact absurd het ((G.conf e.i j e.o p t hej (I.op he).1 hj hpt).1)
    rcases (G.conf i j o p t hne ho hj hpt).2 ht with hw | hw
    · have hlj := ready_waits hr hw
      have hmem := G.back _ _ _ hord j hw
      rw [List.map_map] at hmem
      obtain ⟨e, he, hej⟩ := List.mem_map.1 hmem
      have hej : e.i = j := hej
      have hep : e ∈ pre := by rw [hp]; exact List.mem_append_left _ he
      have heo : e.o = p := by have := (I.op hep).1; rw [hej, hj] at this; exact (Option.some.inj this).symm
      have hdst : e.o.dst = some t := by rw [heo]; exact hpt
      have hts : t < a0.tmps.size := by rw [hn]; exact Nat.le_of_ble_eq_true ((I.op hep).2 t hdst)
      rw [I.at1 e hep (by rw [hej]; exact hlj) t hdst, acts_at p1 a0 t e.v hts (fun f hf hft => by
        have hfp : f ∈ pre := by rw [hp]; exact List.mem_append_left _ hf
        rw [nodup_inj hinj hfp hep (by rw [huniq f hfp hft, hej])]) ⟨e, he, hdst⟩]
    · rw [I.at2 t (fun e he hel het => by
        have := I.closed j i (by rw [← huniq e he het]; exact hel) hw
        rw [hu] at this; cases this), acts_other p1 a0 t (fun e he het => by
        have hep : e ∈ pre := by rw [hp]; exact List.mem_append_left _ he
        have hej := huniq e hep het
        obtain ⟨q1, q2, hq⟩ := List.append_of_mem he
        have hmem := G.back (q1.map fun e => (e.i, !e.q)) (e.i, !e.q) (q2.map (fun e => (e.i, !e.q)) ++ (i, b) :: tl) (by rw [hord, hq]; simp) i (by simpa [hej] using hw)
        rw [List.map_map] at hmem
        obtain ⟨f, hf, hfi⟩ := List.mem_map.1 hmem
        exact hnd f (by rw [hq]; exact List.mem_append_left _ hf) hfi)]
  · have hno : ∀ e ∈ pre, e.o.dst = some t → e.i = i := fun e he het => by
      by_cases hei : i = e.i
      · exact hei.symm
      · exact absurd ⟨e.i, e.o, (I.op he).1, het, hei⟩ hex
    rw [I.at2 t (fun e he hel het => by rw [hno e he het, hu] at hel; cases hel), acts_other p1 a0 t (fun e he het => hnd e he (hno e (by rw [hp]; exact List.mem_append_left _ he) het))]

theorem exec_same {a b : Act} {o : Oper} (hns : ∀ cs b, o.op ≠ .select cs b) (hs : a.tmps.size = b.tmps.size) (h : ∀ t ∈ o.looksAt ops, a.tmps.getD t undef = b.tmps.getD t undef) :
    execOp a.eval o = execOp b.eval o ∧ Region.wanted o (yielded ops a.tmps) = Region.wanted o (yielded ops b.tmps) := by
  have hget : ∀ t ∈ o.looksAt ops, a.tmps[t]? = b.tmps[t]? := fun t ht => by
    have h1 := h t ht
    rw [Array.getD_eq_getD_getElem?, Array.getD_eq_getD_getElem?] at h1
    by_cases hlt : t < a.tmps.size
    · have hlt' : t < b.tmps.size := hs ▸ hlt
      rw [Array.getElem?_eq_getElem hlt, Array.getElem?_eq_getElem hlt'] at h1 ⊢
      exact congrArg some h1
    · rw [Array.getElem?_eq_none (Nat.le_of_not_lt hlt), Array.getElem?_eq_none (hs ▸ Nat.le_of_not_lt hlt)]
  refine ⟨execOp_congr o hns (fun x hx => by
    cases x with
    | tmp t => exact h t (List.mem_append_left _ (List.mem_filterMap.2 ⟨.tmp t, by simpa using hx, rfl⟩))
    | _ => rfl), ?_⟩
  unfold Region.wanted
  cases hg : o.guard with
  | none => rfl
  | some gw =>
    obtain ⟨g, want⟩ := gw
    have : yielded ops a.tmps g = yielded ops b.tmps g := by
      unfold yielded
      cases ht : (ops[g]?).bind (·.dst) with
      | none => rfl
      | some t =>
        simp only [Option.bind_some]
        rw [hget t (by
          unfold Oper.looksAt
          rw [hg]
          exact List.mem_append_right _ (by simp only [ht]; simp))]
    simp only [this]
end

theorem mix_sound {c : Cx} {ok : c.Ok} {k : List It} {ops : Array Oper} {ord : List (Nat × Bool)} (hB : mixB ops ord = true) {E : Env} {K L : List Sp} (hK : Keeps c L K) (h : Mx c ops (fun E' L' => J c k E' L') [] ord E K L) {a0 : Act} {w0 : World} (ha0 : Has c.n a0 E) (hs0 : St c.w0 c.M L w0) :
    wpAny c.P .any ops (c.Q k) ops.size (Array.replicate ops.size false) a0 w0 := by
  have G := mix_of hB
  have main : ∀ m pre rest E K L listed a w, MInv c ops ord (fun E' L' => J c k E' L') a0 pre rest E K L listed a w → ((List.range ops.size).filter fun i => !listed.getD i false).length = m → wpAny c.P .any ops (c.Q k) m listed a w := by
    intro m
    induction m with
    | zero =>
      intro pre rest E K L listed a w I hm
      have hall : ∀ i, i < ops.size → listed.getD i false = true := fun i hi => by
        have h1 : (List.range ops.size).filter (fun i => !listed.getD i false) = [] := List.eq_nil_of_length_eq_zero hm
        simpa using List.filter_eq_nil_iff.1 h1 i (List.mem_range.2 hi)
      have hmx := I.mx
      have hrest : rest = [] := by
        rcases I.hr with h1 | ⟨i, r, h1⟩
        · exact h1
        · exfalso
          rw [h1] at hmx
          obtain ⟨o, ho, _⟩ := hmx
          obtain ⟨e, he, hei⟩ := I.only i (hall i (Array.getElem?_eq_some_iff.1 ho).1)
          have := G.nd
          rw [I.ho, h1, List.map_append, List.map_cons, List.map_map] at this
          exact (List.nodup_append.1 this).2.2 e.i (List.mem_map.2 ⟨e, he, rfl⟩) i (by simp) hei
      subst hrest
      refine ⟨?_, ?_⟩
      · rw [List.eq_nil_iff_forall_not_mem]
        intro i hi
        obtain ⟨hu, o, ho, _⟩ := mem_ready.1 hi
        have hlt := (Array.getElem?_eq_some_iff.1 ho).1
        rw [getD_tf (by rw [I.size]; exact hlt), hall i hlt] at hu
        cases hu
      · have hT : J c k E L := hmx
        refine hT ok a w ⟨by rw [I.tsize]; exact ha0.size, by rw [I.defers]; exact ha0.defers, fun t v ht => ?_⟩ I.st
        rw [← I.has.at_ t v ht]
        by_cases hex : ∃ e ∈ pre, e.o.dst = some t
        · obtain ⟨e, he, het⟩ := hex
          have hts : t < a0.tmps.size := by rw [ha0.size]; exact Nat.le_of_ble_eq_true ((I.op he).2 t het)
          rw [I.at1 e he (hall _ (Array.getElem?_eq_some_iff.1 (I.op he).1).1) t het, acts_at pre a0 t e.v hts (fun f hf hft => by
            by_cases hfe : f.i = e.i
            · rw [nodup_inj (I.nd G) hf he hfe]
            · exact absurd hft ((G.conf f.i e.i f.o e.o t hfe (I.op hf).1 (I.op he).1 het).1)) ⟨e, he, het⟩]
        · rw [I.at2 t (fun e he _ het => hex ⟨e, he, het⟩), acts_other pre a0 t (fun e he het => hex ⟨e, he, het⟩)]
    | succ m ih =>
      intro pre rest E K L listed a w I hm
      refine ⟨fun h0 => ?_, fun i hr => ?_⟩
      · exfalso
        -- the first in the walk's order that is not listed is ready
        have hex : ∃ i, i < ops.size ∧ listed.getD i false = false := by
          have h1 : (List.range ops.size).filter (fun i => !listed.getD i false) ≠ [] := fun h1 => by rw [h1] at hm; simp at hm
          obtain ⟨i, hi⟩ := List.exists_mem_of_ne_nil _ h1
          obtain ⟨h2, h3⟩ := List.mem_filter.1 hi
          exact ⟨i, List.mem_range.1 h2, by simpa using h3⟩
        obtain ⟨i, hi, hu⟩ := hex
        have first : ∀ (q1 : List (Nat × Bool)) x q2, ord = q1 ++ x :: q2 → x.1 < ops.size → listed.getD x.1 false = false → ∃ j, j ∈ Region.ready .any ops listed := by
          intro q1
          induction hl : q1.length using Nat.strongRecOn generalizing q1 with
          | _ n ihn =>
            intro x q2 hq hx hux
            by_cases hw : ∃ j, waits ops x.1 j = true ∧ listed.getD j false = false
            · obtain ⟨j, hw, hj⟩ := hw
              have hmem := G.back q1 x q2 hq j hw
              obtain ⟨y, hy, hyj⟩ := List.mem_map.1 hmem
              obtain ⟨s1, s2, hs⟩ := List.append_of_mem hy
              refine ihn s1.length (by rw [← hl, hs, List.length_append, List.length_cons]; omega) s1 rfl y (s2 ++ x :: q2) (by rw [hq, hs]; simp) ?_ (by rw [hyj]; exact hj)
              exact mixAll hB y (by rw [hq]; exact List.mem_append_left _ hy)
            · have hlt : x.1 < listed.size := by rw [I.size]; exact hx
              exact ⟨x.1, waits_ready (Array.getElem?_eq_getElem hx) (by rw [getD_tf hlt]; exact hux) fun j hwj => by
                cases hb : listed.getD j false
                · exact absurd ⟨j, hwj, hb⟩ hw
                · rfl⟩
        obtain ⟨x, hx, hxi⟩ := List.mem_map.1 (G.all i hi)
        obtain ⟨q1, q2, hq⟩ := List.append_of_mem hx
        have hxi : x.1 = i := hxi
        obtain ⟨j, hj⟩ := first q1 x q2 hq (by rw [hxi]; exact hi) (by rw [hxi]; exact hu)
        rw [h0] at hj; cases hj
      · obtain ⟨hut, o, ho, _⟩ := mem_ready.1 hr
        have hi : i < ops.size := (Array.getElem?_eq_some_iff.1 ho).1
        have hil : i < listed.size := by rw [I.size]; exact hi
        have hu : listed.getD i false = false := by rw [← getD_tf hil]; exact hut
        have hset : ∀ j, (listed.setIfInBounds i true).getD j false = true ↔ (j = i ∨ listed.getD j false = true) := fun j => by
          by_cases e : j = i
          · subst e; simp [getD_set_eq hil]
          · rw [getD_set_ne false (Ne.symm e)]; simp [e]
        have hcount : ((List.range ops.size).filter fun j => !(listed.setIfInBounds i true).getD j false).length = m := by
          have hc := count_set (List.nodup_range (n := ops.size)) (p := fun i => !listed.getD i false) (p' := fun j => !(listed.setIfInBounds i true).getD j false) (List.mem_range.2 hi) (by simp [hu]) (fun j hj => by
            by_cases e : j = i
            · subst e; rw [getD_set_eq hil]; simp
            · rw [getD_set_ne false (Ne.symm e)]; simp [e])
          omega
        have hclosed : ∀ j j', (listed.setIfInBounds i true).getD j false = true → waits ops j j' = true → (listed.setIfInBounds i true).getD j' false = true := fun j j' hj hw => by
          rw [hset] at hj ⊢
          rcases hj with rfl | hj
          · exact .inr (ready_waits hr hw)
          · exact .inr (I.closed j j' hj hw)
        have hmono : ∀ j, (listed.setIfInBounds i true).getD j false = false → listed.getD j false = false := fun j hj => by
          cases hb : listed.getD j false
          · rfl
          · rw [(hset j).2 (.inr hb)] at hj; cases hj
        by_cases hpre : ∃ e ∈ pre, e.i = i
        · -- a quiet one that had been held back
          obtain ⟨e, he, hei⟩ := hpre
          obtain ⟨p1, p2, hp⟩ := List.append_of_mem he
          obtain ⟨heo, hed, heq⟩ := I.en p1 e p2 hp
          have hq : e.q = true := by
            cases hq : e.q
            · have := I.loud e he hq; rw [hei, hu] at this; cases this
            · rfl
          obtain ⟨hhas, hout, hkeep, _⟩ := heq hq
          rw [hei, ho] at heo; cases heo
          have hlooks := I.looks G ha0.size (p2 := e :: p2) hp (i := i) (b := !e.q) (tl := p2.map (fun e => (e.i, !e.q)) ++ rest) (by rw [I.ho, hp]; simp [hei]) ho hu hr
          obtain ⟨hx, hwant⟩ := exec_same (fun cs b => G.nosel i e.o cs b ho) (by rw [I.tsize, acts_size]) hlooks
          have hst : St c.w0 c.M e.K w := hkeep (by rw [hei]; exact hu) w (I.kk w I.st)
          have hnext : ∀ w', Frame w [] w' → wpAny c.P .any ops (c.Q k) m (listed.setIfInBounds i true) (a.put e.o.dst e.v) w' := fun w' hf => by
            refine ih pre rest E K L _ _ w' ⟨I.ho, I.hr, I.mx, I.st.quiet hf, I.kk, I.has, fun q1 f q2 hq => ⟨(I.en q1 f q2 hq).1, (I.en q1 f q2 hq).2.1, fun h => ⟨((I.en q1 f q2 hq).2.2 h).1, ((I.en q1 f q2 hq).2.2 h).2.1, fun hl => ((I.en q1 f q2 hq).2.2 h).2.2.1 (hmono f.i hl), ((I.en q1 f q2 hq).2.2 h).2.2.2⟩⟩, by simpa using I.size, fun j hj => ?_, fun f hf' hfq => (hset _).2 (.inr (I.loud f hf' hfq)), hclosed, fun f hf' hfl d hfd => ?_, fun t ht => ?_, by rw [putO_size]; exact I.tsize, by rw [putO_defers]; exact I.defers⟩ hcount
            · rcases (hset j).1 hj with rfl | hj
              · exact ⟨e, he, hei⟩
              · exact I.only j hj
            · by_cases hfi : f.i = i
              · have : f = e := nodup_inj (I.nd G) hf' he (by rw [hfi, hei])
                subst this
                rw [hfd, put_slot _ _ _ _ (by rw [I.tsize, ha0.size]; exact Nat.le_of_ble_eq_true (hed d hfd)), if_pos rfl]
              · rw [putO_other _ _ _ _ (fun hd => absurd hfd ((G.conf f.i i f.o e.o d hfi (I.op hf').1 ho hd).1))]
                exact I.at1 f hf' (((hset _).1 hfl).resolve_left hfi) d hfd
            · rw [putO_other _ _ _ _ (ht e he ((hset _).2 (.inl hei)))]
              exact I.at2 t fun f hf' hfl => ht f hf' ((hset _).2 (.inr hfl))
          unfold wpOp
          simp only [ho]
          rcases hout ok _ w hhas hst with ⟨hw1, hrun⟩ | ⟨hw1, hv⟩
          · rw [if_pos (by rw [hwant]; exact hw1)]
            refine .inl ?_
            unfold Oper.wp
            rw [hx]
            rcases hrun with hrun | ⟨f, args, hrun, hcall⟩
            · rw [hrun]; exact hnext w (Frame.refl w _)
            · rw [hrun]
              refine Calls.mono hcall ?_
              rintro e w' ⟨rfl, hs'⟩
              exact hnext w' hs'
          · rw [if_neg (by rw [hwant, hw1]; simp), ← hv]
            exact hnext w (Frame.refl w _)
        · -- the next loud one
          have hmx := I.mx
          rcases I.hr with h1 | ⟨l, r, h1⟩
          · exfalso
            have := G.all i hi
            rw [I.ho, h1, List.append_nil, List.map_map] at this
            obtain ⟨e, he, hei⟩ := List.mem_map.1 this
            exact hpre ⟨e, he, hei⟩
          have hil' : i = l := by
            have hmem := G.all i hi
            rw [I.ho, h1, List.map_append, List.map_map] at hmem
            rcases List.mem_append.1 hmem with hmem | hmem
            · obtain ⟨e, he, hei⟩ := List.mem_map.1 hmem
              exact absurd ⟨e, he, hei⟩ hpre
            · simp only [List.map_cons, List.mem_cons] at hmem
              rcases hmem with h2 | h2
              · exact h2
              · exfalso
                obtain ⟨x, hx, hxi⟩ := List.mem_map.1 h2
                obtain ⟨q2, q3, hq⟩ := List.append_of_mem hx
                have hxi : x.1 = i := hxi
                obtain ⟨j, hw, hj⟩ := G.since (pre.map fun e => (e.i, !e.q)) l q2 x q3 (by rw [I.ho, h1, hq])
                rw [hxi] at hw
                obtain ⟨e, he, hej⟩ := I.only j (ready_waits hr hw)
                have hnd := G.nd
                rw [I.ho, h1, hq, List.map_append, List.map_map] at hnd
                refine (List.nodup_append.1 hnd).2.2 e.i (List.mem_map.2 ⟨e, he, rfl⟩) j ?_ hej
                rcases hj with rfl | hj
                · simp
                · obtain ⟨y, hy, hyj⟩ := List.mem_map.1 hj
                  exact List.mem_map.2 ⟨y, by simp [hy], hyj⟩
          subst hil'
          rw [h1] at hmx
          obtain ⟨o', ho', hdn, hloud⟩ := hmx
          rw [ho] at ho'; cases ho'
          have hlooks := I.looks G ha0.size (p1 := pre) (p2 := []) (by simp) (i := i) (b := true) (tl := r) (by rw [I.ho, h1]) ho hu hr
          obtain ⟨hx, hwant⟩ := exec_same (fun cs b => G.nosel i o cs b ho) (by rw [I.tsize, acts_size]) hlooks
          have hnext : ∀ v L' w', (∃ K', Keeps c L' K' ∧ (allB ops i (pre.map En.i).reverse = true ∨ Keeps c K' K) ∧ Mx c ops (fun E' L' => J c k E' L') (i :: (pre.map En.i).reverse) r (extD o.dst v E) K' L') → St c.w0 c.M L' w' → wpAny c.P .any ops (c.Q k) m (listed.setIfInBounds i true) (a.put o.dst v) w' := by
            rintro v L' w' ⟨K', hk1, hk2, hm2⟩ hs'
            have hb' : Has c.n (acts (pre ++ [⟨i, false, o, v, E, K⟩]) a0) (extD o.dst v E) := by
              rw [acts_app]
              simp only [acts]
              cases hd : o.dst with
              | none => exact I.has
              | some d => exact I.has.put v (hdn d hd)
            obtain ⟨qs, rest', E', e1, e2, e3, e4, e5, e6⟩ := mx_unroll hm2 hb'
            have hpq : ∀ e ∈ qs, listed.getD e.i false = false := fun e he => by
              cases hb : listed.getD e.i false
              · rfl
              · exfalso
                obtain ⟨f, hf, hfe⟩ := I.only e.i hb
                have hnd := G.nd
                rw [I.ho, h1, e1, List.map_append, List.map_map] at hnd
                refine (List.nodup_append.1 hnd).2.2 f.i (List.mem_map.2 ⟨f, hf, rfl⟩) e.i ?_ hfe
                exact List.mem_map.2 ⟨(e.i, !e.q), by simp; exact .inr (.inl ⟨e, he, rfl, rfl⟩), rfl⟩
            have hqi : ∀ e ∈ qs, e.i ≠ i := fun e he hei => by
              have hnd := G.nd
              rw [I.ho, h1, e1, List.map_append, List.map_map] at hnd
              have hnd2 := (List.nodup_append.1 hnd).2.1
              simp only [List.map_cons, List.nodup_cons] at hnd2
              exact hnd2.1 (List.mem_map.2 ⟨(e.i, !e.q), by simp; exact .inl ⟨e, he, rfl, rfl⟩, hei⟩)
            refine ih (pre ++ [⟨i, false, o, v, E, K⟩] ++ qs) rest' E' K' L' _ _ w' ⟨by rw [I.ho, h1, e1]; simp, e2, by simpa using e3, hs', hk1, by rw [acts_app]; exact e4, fun p1 e p2 hp => ?_, by simpa using I.size, fun j hj => ?_, fun f hf hfq => ?_, hclosed, fun f hf hfl d hfd => ?_, fun t ht => ?_, by rw [putO_size]; exact I.tsize, by rw [putO_defers]; exact I.defers⟩ hcount
            · rw [List.append_assoc] at hp
              rcases List.append_eq_append_iff.1 hp with ⟨s, hs1, hs2⟩ | ⟨s, hs1, hs2⟩
              · cases s with
                | nil =>
                  simp at hs1 hs2
                  obtain ⟨rfl, rfl⟩ := hs2
                  exact ⟨ho, hdn, fun h => by cases h⟩
                | cons y s =>
                  simp at hs2
                  obtain ⟨rfl, hs2⟩ := hs2
                  obtain ⟨g1, g2, g3, g4, g5⟩ := e6 s e p2 hs2
                  refine ⟨g1, g2, fun _ => ⟨?_, g4, fun _ w hw => by rw [g5]; exact keep_if hw, fun hp_ => by rw [g5, if_pos hp_]⟩⟩
                  have : p1 = (pre ++ [⟨i, false, o, v, E, K⟩]) ++ s := by rw [hs1]; simp
                  rw [this, acts_app]
                  exact g3
              · cases s with
                | nil =>
                  simp at hs1 hs2
                  obtain ⟨rfl, rfl⟩ := hs2
                  exact ⟨ho, hdn, fun h => by cases h⟩
                | cons y s =>
                  simp at hs2
                  obtain ⟨rfl, hs2⟩ := hs2
                  obtain ⟨g1, g2, g3⟩ := I.en p1 e s hs1
                  refine ⟨g1, g2, fun hq => ⟨(g3 hq).1, (g3 hq).2.1, fun hl w hw => ?_, (g3 hq).2.2.2⟩⟩
                  rcases hk2 with hk2 | hk2
                  · have hep : e ∈ pre := by rw [hs1]; simp
                    have h6 := List.all_eq_true.1 hk2 e.i (by simp; exact ⟨e, hep, rfl⟩)
                    rcases Bool.or_eq_true _ _ ▸ h6 with h6 | h6p
                    case inr =>
                      have hpu : pureO e.o = true := by simpa [pureA, g1] using h6p
                      rw [(g3 hq).2.2.2 hpu]; exact keep_nil hw
                    exfalso
                    have h7 : listed.getD e.i false = true := by
                      rcases Bool.or_eq_true _ _ ▸ h6 with h8 | h8
                      · exact ready_waits hr h8
                      · obtain ⟨m', _, h9⟩ := List.any_eq_true.1 h8
                        simp only [Bool.and_eq_true] at h9
                        rcases Bool.or_eq_true _ _ ▸ h9.2 with h10 | h10
                        · exact I.closed m' e.i (ready_waits hr h9.1) h10
                        · obtain ⟨q', _, h11⟩ := List.any_eq_true.1 h10
                          simp only [Bool.and_eq_true] at h11
                          exact I.closed q' e.i (I.closed m' q' (ready_waits hr h9.1) h11.1) h11.2
                    rw [hmono e.i hl] at h7; cases h7
                  · exact (g3 hq).2.2.1 (hmono e.i hl) w (hk2 w hw)
            · rcases (hset j).1 hj with rfl | hj
              · exact ⟨⟨j, false, o, v, E, K⟩, by simp, rfl⟩
              · obtain ⟨f, hf, hfj⟩ := I.only j hj
                exact ⟨f, by simp [hf], hfj⟩
            · rw [hset]
              simp only [List.append_assoc, List.mem_append, List.mem_singleton] at hf
              rcases hf with hf | rfl | hf
              · exact .inr (I.loud f hf hfq)
              · exact .inl rfl
              · rw [e5 f hf] at hfq; cases hfq
            · simp only [List.append_assoc, List.mem_append, List.mem_singleton] at hf
              rcases hf with hf | rfl | hf
              · have hfi : f.i ≠ i := fun hfi => hpre ⟨f, hf, hfi⟩
                rw [putO_other _ _ _ _ (fun hd => absurd hfd ((G.conf f.i i f.o o d hfi (I.op hf).1 ho hd).1))]
                exact I.at1 f hf (((hset _).1 hfl).resolve_left hfi) d hfd
              · have hfd : o.dst = some d := hfd
                rw [hfd, put_slot _ _ _ _ (by rw [I.tsize, ha0.size]; exact Nat.le_of_ble_eq_true (hdn d hfd)), if_pos rfl]
              · rcases (hset _).1 hfl with h5 | h5
                · exact absurd h5 (hqi f hf)
                · rw [hpq f hf] at h5; cases h5
            · rw [putO_other _ _ _ _ (ht ⟨i, false, o, v, E, K⟩ (by simp) ((hset _).2 (.inl rfl)))]
              exact I.at2 t fun f hf hfl => ht f (by simp [hf]) ((hset _).2 (.inr hfl))
          unfold wpOp
          simp only [ho]
          rcases hloud ok _ w I.has I.st with ⟨hw1, hwp⟩ | ⟨hw1, hR⟩
          · rw [if_pos (by rw [hwant]; exact hw1)]
            refine .inl (wp_move (X := fun v L' w' => (∃ K', Keeps c L' K' ∧ (allB ops i (pre.map En.i).reverse = true ∨ Keeps c K' K) ∧ Mx c ops (fun E' L' => J c k E' L') (i :: (pre.map En.i).reverse) r (extD o.dst v E) K' L') ∧ St c.w0 c.M L' w') hx (fun d hd => by rw [acts_size, ha0.size]; exact Nat.le_of_ble_eq_true (hdn d hd)) hwp ?_)
            rintro v L' w' ⟨h5, h6⟩
            exact hnext v L' w' h5 h6
          · rw [if_neg (by rw [hwant, hw1]; simp)]
            exact hnext undef L w hR I.st
  obtain ⟨qs, rest', E', e1, e2, e3, e4, e5, e6⟩ := mx_unroll h ha0
  have hf : ∀ j, (Array.replicate ops.size false).getD j false = false := fun j => getD_replicate_false _ j
  refine main _ qs rest' E' K L _ a0 w0 ⟨e1, e2, by simpa using e3, hs0, hK, e4, fun p1 e p2 hp => ?_, by simp, fun i hi => (by rw [hf] at hi; cases hi), fun e he hq => (by rw [e5 e he] at hq; cases hq), fun i j hi => (by rw [hf] at hi; cases hi), fun e _ hi => (by rw [hf] at hi; cases hi), fun t _ => rfl, rfl, rfl⟩ ?_
  · obtain ⟨g1, g2, g3, g4, g5⟩ := e6 p1 e p2 hp
    exact ⟨g1, g2, fun _ => ⟨g3, g4, fun _ w hw => by rw [g5]; exact keep_if hw, fun hp_ => by rw [g5, if_pos hp_]⟩⟩
  · have h1 : (List.range ops.size).filter (fun i => !(Array.replicate ops.size false).getD i false) = List.range ops.size := List.filter_eq_self.2 fun j _ => by rw [getD_replicate_false]; rfl
    rw [h1, List.length_range]

def MxK (c : Cx) (ops : Array Oper) (T : Env → List Sp → Prop) (i : Nat) (seen : List Nat) (rest : List (Nat × Bool)) (E : Env) (K L' : List Sp) : Prop := ∃ K', Keeps c L' K' ∧ (allB ops i seen = true ∨ Keeps c K' K) ∧ Mx c ops T (i :: seen) rest E K' L'

section
variable {c : Cx} {k : List It} {E : Env} {K L : List Sp} {ops : Array Oper} {o : Op} {ty : TypeId} {d i : Nat} {seen : List Nat} {pos : String} {af : Array Edge} {v : Value} {rest : List (Nat × Bool)} {T : Env → List Sp → Prop}

theorem J.drawMix {id : Nat} {l : List Oper} (ord : List (Nat × Bool)) (is : List Nat) (K : List Sp) (hm : c.P.follows .mixedOrders = true) (hB : mixB l.toArray ord = true) (hn : is.Nodup) (hL : LK.sel L is = K)
    (h : Mx c l.toArray (fun E' L' => J c k E' L') [] ord E K L) : J c (.code (.region id l.toArray true) :: k) E L := fun ok _ _ ha hs =>
  wp_region_any hm (mix_sound (ok := ok) hB (fun _ hs => hL ▸ hs.sel hn) h ha hs.drew')

theorem MxK.go (is js : List Nat) (K' : List Sp) {L' : List Sp} (hn : is.Nodup) (hL : LK.sel L' is = K') (hn' : js.Nodup) (hK : LK.sel K' js = K) (h : Mx c ops T (i :: seen) rest E K' L') : MxK c ops T i seen rest E K L' :=
  ⟨K', fun _ hs => hL ▸ hs.sel hn, .inr fun _ hs => hK ▸ hs.sel hn', h⟩
/-- A loud operation that waits for all that came ahead of it. -/
theorem MxK.all (is : List Nat) (K' : List Sp) {L' : List Sp} (hn : is.Nodup) (hL : LK.sel L' is = K') (hw : allB ops i seen = true) (h : Mx c ops T (i :: seen) rest E K' L') : MxK c ops T i seen rest E K L' :=
  ⟨K', fun _ hs => hL ▸ hs.sel hn, .inl hw, h⟩
theorem Mx.nil (h : T E L) : Mx c ops T seen [] E K L := h

theorem Mx.q (hi : ops[i]? = some ⟨some d, o, ty, pos, af, none⟩) (hq : Qt c E K o ty v) (hd : Nat.blt d c.n = true) (h : Mx c ops T (i :: seen) rest ((d, v) :: E) K L) (hp : pureO ⟨some d, o, ty, pos, af, none⟩ = false := by rfl) : Mx c ops T seen ((i, false) :: rest) E K L :=
  ⟨_, d, v, hi, rfl, hd, fun ok a w ha hs => .inl ⟨by simp [Region.wanted], .inl (hq ok a w ha hs _ _ _ _)⟩, (fun h_ => by rw [hp] at h_; cases h_), h⟩
theorem Mx.p (hi : ops[i]? = some ⟨some d, o, ty, pos, af, none⟩) (hq : Pu c E o ty v) (hd : Nat.blt d c.n = true) (h : Mx c ops T (i :: seen) rest ((d, v) :: E) K L) : Mx c ops T seen ((i, false) :: rest) E K L :=
  ⟨_, d, v, hi, rfl, hd, fun ok a w ha hs => .inl ⟨by simp [Region.wanted], .inl (hq.qt (L := K) ok a w ha hs _ _ _ _)⟩, fun _ ok a w ha hs => .inl ⟨by simp [Region.wanted], .inl (hq.qt (L := []) ok a w ha hs _ _ _ _)⟩, h⟩
theorem Mx.gskipL {j t : Nat} {want : Bool} {u : Value} (hi : ops[i]? = some ⟨some d, o, ty, pos, af, some (j, want)⟩) (hj : (ops[j]?).bind (·.dst) = some t) (ht : look E t = some u) (hu : boolOf u ≠ some want) (hn : Nat.blt t c.n = true) (hd : Nat.blt d c.n = true)
    (h : MxK c ops T i seen rest ((d, undef) :: E) K L) : Mx c ops T seen ((i, true) :: rest) E K L :=
  ⟨_, hi, fun d' hd' => by cases hd'; exact hd, fun _ _ _ ha _ => .inr ⟨wanted_no (j := j) (t := t) (want := want) ha rfl hj ht hu hn, h⟩⟩
theorem Mx.call {f : FuncId} {x : Operand} {xs : List Operand} {ts : Array TypeId} {vs caps : List Value} {RoC : List Sp} {post : Value → List Sp → Prop} (hi : ops[i]? = some ⟨some d, .call { callee := .value x, args := xs.toArray, argTypes := ts }, ty, pos, af, none⟩)
    (hcall : ∀ args w, (callFunc f args).run c.P w = .ok (.enter f args) w) (hx : ev E x = some (.func (.func f) #[] caps.toArray))
    (hxs : xs.map (ev E) = vs.map some) (ht : Tri c.P f (vs ++ caps).toArray RoC [] post) (hpost : ∀ u L', post u L' → u = v ∧ L' = []) (hro : RoOk c K [] RoC) (hd : Nat.blt d c.n = true) (h : Mx c ops T (i :: seen) rest ((d, v) :: E) K L) :
    Mx c ops T seen ((i, false) :: rest) E K L :=
  ⟨_, d, v, hi, rfl, hd, fun ok a w ha hs => .inl ⟨by simp [Region.wanted], .inr ⟨f, (vs ++ caps).toArray, by
      have h1 : xs.map a.eval = vs := ha.evs hxs
      simp [execOp, resolve, Deferred.ofValue, invoke, ha.ev hx, h1, hcall], by
      refine (ht w (hro ok w hs) ⟨Frame.refl w _, by simp, by simp, by simp⟩).mono ?_
      rintro e w' ⟨u, L', rfl, hp, hs'⟩
      obtain ⟨rfl, rfl⟩ := hpost u L' hp
      exact ⟨rfl, hs'.fr⟩⟩⟩, fun h_ => absurd h_ (by simp [pureO]), h⟩

theorem Mx.l {R : Value → List Sp → Prop} (hi : ops[i]? = some ⟨some d, o, ty, pos, af, none⟩) (hl : Lo c E L o ty R) (hd : Nat.blt d c.n = true) (h : ∀ v L', R v L' → MxK c ops T i seen rest ((d, v) :: E) K L') : Mx c ops T seen ((i, true) :: rest) E K L :=
  ⟨_, hi, fun d' hd' => by cases hd'; exact hd, fun ok a w ha hs => .inl ⟨by simp [Region.wanted], hl ok a w ha hs _ _ _ _ _ _ fun v L' _ hR hs' => ⟨v, L', rfl, h v L' hR, hs'⟩⟩⟩
theorem Mx.l0 {R : Value → List Sp → Prop} (hi : ops[i]? = some ⟨none, o, ty, pos, af, none⟩) (hl : Lo c E L o ty R) (h : ∀ v L', R v L' → MxK c ops T i seen rest E K L') : Mx c ops T seen ((i, true) :: rest) E K L :=
  ⟨_, hi, fun d' hd' => (by cases hd'), fun ok a w ha hs => .inl ⟨by simp [Region.wanted], hl ok a w ha hs _ _ _ _ _ _ fun v L' _ hR hs' => ⟨v, L', rfl, h v L' hR, hs'⟩⟩⟩
theorem Pu.indexAddrK {len e g off s : Nat} {m : Int} {x y : Operand} {T' : TypeId} (off' : Nat) (hT : ∀ w, (underlying T').run c.P w = .ok (.array len e) w) (hs : ∀ w, (sizeOf e).run c.P w = .ok s w)
    (hx : ev E x = some (.pointer (some ⟨g, off, none⟩))) (hy : ev E y = some (.int .i64 m)) (h0 : 0 ≤ m) (h1 : m < len) (ho : off + m.toNat * s = off') : Pu c E (.indexAddr T' x y) ty (.pointer (some ⟨g, off', none⟩)) := ho ▸ Pu.indexAddrA hT hs hx hy h0 h1
/-- Ahead of a loud operation that has no guard: a slice that is nil. -/
theorem Mx.nilRow (t : TypeId) (s : Nat) {o' : Oper} (hi : ops[i]? = some o') (hg : o'.guard = none) (h : Mx c ops T seen ((i, true) :: rest) E K (row (.slice none 0 0) t s [] :: L)) : Mx c ops T seen ((i, true) :: rest) E K L := by
  obtain ⟨o, ho, hd, hl⟩ := h
  rw [ho] at hi; cases hi
  refine ⟨_, ho, hd, fun ok a w ha hs => .inl ?_⟩
  rcases hl ok a w ha (hs.add (Frame.refl w _) ⟨World.ownsRow_nil w 0 t s, by simp⟩ (by simp [row, Value.ownBlock])) with h1 | ⟨h1, _⟩
  · exact h1
  · simp [Region.wanted, hg] at h1
end
end Go.LK
