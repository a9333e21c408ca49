/-
  The plain law of waits: pairs that rise by their calls, and the maps that tell the same.
-/
import Derived.Test.YtnkhmbbnabejhaaLk34
import Derived.Test.YtnkhmbbnabejhaaJob0
namespace Go.LK
structure Pr where
  call : Int
  job : Int
def Pr.cells (e : Pr) : List Value := [.int .i64 e.call, .int .i64 e.job]
theorem Pr.one {l : List Pr} : ∀ a ∈ l, (Pr.cells a).all Value.oneCell' = true := fun _ _ => rfl
structure Ac where
  kind : Int
  call : Int
  job : Int
def Ac.cells (e : Ac) : List Value := [.int .i64 e.kind, .int .i64 e.call, .int .i64 e.job]
structure Ws where
  b : Nat
  o : Nat
  pm : List (Int × Int)
  om : List (Int × (Nat × List (Int × Int)))
def vO (v : Nat × List (Int × Int)) : Value := .map (some v.1)
def inA (p : Int × (Nat × List (Int × Int))) : Sp := mi p.2.1 (Value.int .i64) p.2.2
def Ws.L (T p : Nat) (s : Ws) : List Sp := [var p [.map (some s.b), .map (some s.o)] T, mi s.b (Value.int .i64) s.pm, mi s.o vO s.om, bun (s.om.map inA)]
/-- All that a Waits owns, as one atom. -/
def wt (T p : Nat) (s : Ws) : Sp := bun (Ws.L T p s)
theorem mi_congr {α : Type} {b : Nat} {f : α → Value} {m m' : List (Int × α)} (h : m.map (fun p => (p.1, f p.2)) = m'.map fun p => (p.1, f p.2)) : ∀ w, (mi b f m).holds w → (mi b f m').holds w := by
  rintro w ⟨arr, clock, h1, h2⟩
  have hk : keysI m = keysI m' := by
    have := congrArg (List.map Prod.fst) h
    simpa [keysI, List.map_map, Function.comp_def] using this
  have he : m.map (fun p => (Value.int .i64 p.1, f p.2)) = m'.map fun p => (Value.int .i64 p.1, f p.2) := by
    have := congrArg (List.map fun (q : Int × Value) => (Value.int .i64 q.1, q.2)) h
    simpa [List.map_map, Function.comp_def] using this
  exact ⟨arr, clock, h1, ⟨h2.eq.trans he, hk ▸ h2.keys, h2.born, h2.old⟩⟩
section
variable {α : Type} {m : List (Int × α)} {k : Int} {v u : α}
theorem getI_split (h : getI m k = some v) (hn : (keysI m).Nodup) : ∃ A B, m = A ++ (k, v) :: B ∧ putI m k u = A ++ (k, u) :: B ∧ delI m k = A ++ B := by
  induction m with
  | nil => simp [getI] at h
  | cons p m ih =>
    have hn' := List.nodup_cons.1 (keysI_cons ▸ hn : (p.1 :: keysI m).Nodup)
    simp only [getI] at h
    by_cases hp : p.1 = k
    · rw [if_pos hp] at h
      cases h
      refine ⟨[], m, by simp [← hp], by simp [putI, hp], ?_⟩
      have : delI m k = m := del_none (hp ▸ hn'.1)
      unfold delI at this ⊢
      rw [List.filter_cons, if_neg (by simp [hp]), this]; rfl
    · rw [if_neg hp] at h
      obtain ⟨A, B, h1, h2, h3⟩ := ih h hn'.2
      refine ⟨p :: A, B, by rw [h1]; rfl, by simp [putI, hp, h2], ?_⟩
      unfold delI at h3 ⊢
      rw [List.filter_cons, if_pos (by simp [hp]), h3]; rfl
theorem putI_new (h : getI m k = none) : putI m k u = m ++ [(k, u)] := by
  induction m with
  | nil => rfl
  | cons p m ih =>
    simp only [getI] at h
    by_cases hp : p.1 = k
    · rw [if_pos hp] at h; cases h
    · rw [if_neg hp] at h
      simp [putI, hp, ih h]
end
end Go.LK
namespace Go.LK.Wt
open Go Go.LK
def jobOf : List Pr → Int → Option Int
  | [], _ => none
  | p :: l, c => if p.call = c then some p.job else jobOf l c
def without (l : List Pr) (c : Int) : List Pr := l.filter fun p => decide (p.call ≠ c)
def ofJ (l : List Pr) (j : Int) : List Int := (l.filter fun p => decide (p.job = j)).map Pr.call
def drop (l : List Pr) (j : Int) : List Pr := l.filter fun p => decide (p.job ≠ j)
def ins : List Pr → Int → Int → List Pr
  | [], c, j => [⟨c, j⟩]
  | p :: l, c, j => if p.call < c then p :: ins l c j else ⟨c, j⟩ :: p :: l
def add (l : List Pr) (c j : Int) : List Pr := if (jobOf l c).isSome then l else ins l c j
def calls (l : List Pr) : List Int := l.map Pr.call
section
variable {l : List Pr} {c c' j j' : Int}
theorem calls_cons {p : Pr} : calls (p :: l) = p.call :: calls l := rfl
theorem jobOf_mem : (∃ j, jobOf l c = some j) ↔ c ∈ calls l := by
  induction l with
  | nil => simp [jobOf, calls]
  | cons p l ih =>
    rw [calls_cons, List.mem_cons]; simp only [jobOf]
    by_cases h : p.call = c
    · simp [h]
    · rw [if_neg h, ih]
      constructor
      · exact .inr
      · rintro (h1 | h1)
        · exact absurd h1.symm h
        · exact h1
theorem jobOf_none : jobOf l c = none ↔ c ∉ calls l := by
  rw [← jobOf_mem]; cases jobOf l c <;> simp
theorem jobOf_without : jobOf (without l c) c' = if c = c' then none else jobOf l c' := by
  induction l with
  | nil => simp [without, jobOf]
  | cons p l ih =>
    unfold without at ih ⊢
    rw [List.filter_cons]
    by_cases h : p.call = c
    · rw [if_neg (by simp [h]), ih]; simp only [jobOf]
      by_cases h2 : c = c'
      · simp [h2]
      · have : ¬ p.call = c' := fun e => h2 (h.symm.trans e)
        simp [h2, this]
    · rw [if_pos (by simp [h])]; simp only [jobOf, ih]
      by_cases h2 : c = c'
      · subst h2; simp [h]
      · simp [h2]
theorem jobOf_ins (hn : jobOf l c = none) : jobOf (ins l c j) c' = if c = c' then some j else jobOf l c' := by
  induction l with
  | nil => simp [ins, jobOf]
  | cons p l ih =>
    simp only [jobOf] at hn
    by_cases h : p.call = c
    · rw [if_pos h] at hn; cases hn
    · rw [if_neg h] at hn
      simp only [ins]
      split
      · simp only [jobOf, ih hn]
        by_cases h2 : c = c'
        · subst h2; simp [h]
        · simp [h2]
      · simp only [jobOf]
theorem calls_ins : ∀ x, x ∈ calls (ins l c j) ↔ x = c ∨ x ∈ calls l := by
  induction l with
  | nil => intro x; simp [ins, calls]
  | cons p l ih =>
    intro x
    simp only [ins]
    split
    · rw [calls_cons, calls_cons, List.mem_cons, List.mem_cons, ih]
      constructor
      · rintro (h | h | h)
        · exact .inr (.inl h)
        · exact .inl h
        · exact .inr (.inr h)
      · rintro (h | h | h)
        · exact .inr (.inl h)
        · exact .inl h
        · exact .inr (.inr h)
    · rw [calls_cons, List.mem_cons]
theorem up_ins (hu : Jb.Up (calls l)) (hn : jobOf l c = none) : Jb.Up (calls (ins l c j)) := by
  induction l with
  | nil => simp [ins, calls, Jb.Up]
  | cons p l ih =>
    have hu' := List.pairwise_cons.1 (show List.Pairwise (· < ·) (p.call :: calls l) from hu)
    simp only [jobOf] at hn
    by_cases h : p.call = c
    · rw [if_pos h] at hn; cases hn
    · rw [if_neg h] at hn
      simp only [ins]
      split
      · rename_i hlt
        refine List.pairwise_cons.2 ⟨fun x hx => ?_, ih hu'.2 hn⟩
        rcases (calls_ins x).1 hx with rfl | hx
        · exact hlt
        · exact hu'.1 x hx
      · rename_i hlt
        refine List.pairwise_cons.2 ⟨fun x hx => ?_, hu⟩
        have hcp : c < p.call := by
          have : (⟨c, j⟩ : Pr).call = c := rfl
          omega
        rcases List.mem_cons.1 (show x ∈ p.call :: calls l from hx) with rfl | hx
        · exact hcp
        · exact Int.lt_trans hcp (hu'.1 x hx)
theorem up_filter {f : Pr → Bool} (hu : Jb.Up (calls l)) : Jb.Up (calls (l.filter f)) := List.Pairwise.sublist (List.Sublist.map _ List.filter_sublist) hu
theorem mem_ofJ (hu : Jb.Up (calls l)) : c ∈ ofJ l j ↔ jobOf l c = some j := by
  induction l with
  | nil => simp [ofJ, jobOf]
  | cons p l ih =>
    have hu' := List.pairwise_cons.1 (show List.Pairwise (· < ·) (p.call :: calls l) from hu)
    have h0 : ofJ (p :: l) j = if p.job = j then p.call :: ofJ l j else ofJ l j := by
      unfold ofJ; rw [List.filter_cons]; by_cases h : p.job = j <;> simp [h]
    rw [h0]; simp only [jobOf]
    by_cases h : p.call = c
    · rw [if_pos h]
      have hno : c ∉ calls l := fun hc => by have := hu'.1 c hc; omega
      have hno2 : c ∉ ofJ l j := fun hc => by
        obtain ⟨q, hq, he⟩ := List.mem_map.1 hc
        exact hno (List.mem_map.2 ⟨q, (List.mem_filter.1 hq).1, he⟩)
      by_cases hj : p.job = j
      · simp [hj, h]
      · simp [hj, hno2]
    · rw [if_neg h, ← ih hu'.2]
      have h' : ¬ c = p.call := fun e => h e.symm
      by_cases hj : p.job = j
      · simp [hj, h']
      · simp [hj]
theorem up_ofJ (hu : Jb.Up (calls l)) : Jb.Up (ofJ l j) := up_filter hu
/-- What the maps tell is what the pairs tell. -/
structure Rep (x : List Pr) (s : Ws) : Prop where
  up : Jb.Up (calls x)
  pn : (keysI s.pm).Nodup
  on : (keysI s.om).Nodup
  by_ : ∀ c, getI s.pm c = jobOf x c
  ofN : ∀ j, getI s.om j = none → ∀ c, jobOf x c ≠ some j
  ofS : ∀ j v, getI s.om j = some v → (keysI v.2).Nodup ∧ v.2 ≠ [] ∧ ∀ c, c ∈ keysI v.2 ↔ jobOf x c = some j
theorem Rep.new {b o : Nat} : Rep [] ⟨b, o, [], []⟩ := ⟨by simp [calls, Jb.Up], by simp [keysI], by simp [keysI], fun _ => rfl, fun _ _ _ => by simp [jobOf], fun j v h => by simp [getI] at h⟩
variable {x : List Pr} {s : Ws} {v : Nat × List (Int × Int)}
theorem Rep.len (h : Rep x s) : s.pm.length = x.length := by
  have h1 : (keysI s.pm).Perm (calls x) := (List.perm_ext_iff_of_nodup h.pn (h.up.imp (fun hab => Int.ne_of_lt hab))).2 fun c => by
    rw [← getI_mem, ← jobOf_mem, h.by_]
  have := h1.length_eq
  simpa [keysI, calls] using this
theorem Rep.keys (h : Rep x s) (hv : getI s.om j = some v) : Jb.rising (keysI v.2) = ofJ x j := by
  obtain ⟨_, _, h3⟩ := h.ofS j v hv
  exact Jb.up_ext (Jb.rising_up _) (up_ofJ h.up) fun c => by rw [Jb.mem_rising, h3, mem_ofJ h.up]
theorem Rep.noJob (h : Rep x s) (hv : getI s.om j = none) : ofJ x j = [] := List.eq_nil_iff_forall_not_mem.2 fun c hc => h.ofN j hv c ((mem_ofJ h.up).1 hc)
theorem Rep.hasJob (h : Rep x s) (hc : jobOf x c = some j) : ∃ v, getI s.om j = some v ∧ c ∈ keysI v.2 := by
  cases hv : getI s.om j with
  | none => exact absurd hc (h.ofN j hv c)
  | some v => exact ⟨v, rfl, ((h.ofS j v hv).2.2 c).2 hc⟩
theorem nodup_keys_put {α : Type} {m : List (Int × α)} {k : Int} {u : α} : (keysI m).Nodup → (keysI (putI m k u)).Nodup := nodup_put
theorem mem_keys_put {α : Type} {m : List (Int × α)} {k k' : Int} {u : α} : k' ∈ keysI (putI m k u) ↔ k' = k ∨ k' ∈ keysI m := by
  rw [← getI_mem, getI_putI, ← getI_mem]
  by_cases h : k = k'
  · simp [h]
  · have : ¬ k' = k := fun e => h e.symm
    simp [h, this]
theorem mem_keys_del {α : Type} {m : List (Int × α)} {k k' : Int} : k' ∈ keysI (delI m k) ↔ k' ≠ k ∧ k' ∈ keysI m := by
  rw [← getI_mem, getI_delI, ← getI_mem]
  by_cases h : k = k'
  · simp [h]
  · have : ¬ k' = k := fun e => h e.symm
    simp [h, this]
theorem put_ne {α : Type} {m : List (Int × α)} {k : Int} {u : α} : putI m k u ≠ [] := fun h => by
  have : k ∈ keysI (putI m k u) := mem_keys_put.2 (.inl rfl)
  rw [h] at this; simp [keysI] at this
theorem Rep.addHas (h : Rep x s) (hn : jobOf x c = none) (hv : getI s.om j = some v) : Rep (ins x c j) { s with pm := putI s.pm c j, om := putI s.om j (v.1, putI v.2 c j) } := by
  refine ⟨up_ins h.up hn, nodup_put h.pn, nodup_put h.on, fun c' => ?_, fun j' hj' c' => ?_, fun j' u hu => ?_⟩
  · rw [getI_putI, jobOf_ins hn, h.by_]
  · rw [getI_putI] at hj'
    by_cases he : j = j'
    · rw [if_pos he] at hj'; cases hj'
    · rw [if_neg he] at hj'
      rw [jobOf_ins hn]
      split
      · intro e; cases e; exact he rfl
      · exact h.ofN j' hj' c'
  · rw [getI_putI] at hu
    by_cases he : j = j'
    · subst he
      rw [if_pos rfl] at hu; cases hu
      obtain ⟨h1, h2, h3⟩ := h.ofS j v hv
      refine ⟨nodup_put h1, put_ne, fun c' => ?_⟩
      rw [mem_keys_put, jobOf_ins hn, h3]
      by_cases hc : c = c'
      · simp [hc]
      · have : ¬ c' = c := fun e => hc e.symm
        simp [hc, this]
    · rw [if_neg he] at hu
      obtain ⟨h1, h2, h3⟩ := h.ofS j' u hu
      refine ⟨h1, h2, fun c' => ?_⟩
      rw [h3, jobOf_ins hn]
      by_cases hc : c = c'
      · subst hc
        simp [hn, he]
      · simp [hc]
theorem Rep.addNew {b : Nat} (h : Rep x s) (hn : jobOf x c = none) (hv : getI s.om j = none) : Rep (ins x c j) { s with pm := putI s.pm c j, om := putI s.om j (b, putI [] c j) } := by
  refine ⟨up_ins h.up hn, nodup_put h.pn, nodup_put h.on, fun c' => ?_, fun j' hj' c' => ?_, fun j' u hu => ?_⟩
  · rw [getI_putI, jobOf_ins hn, h.by_]
  · rw [getI_putI] at hj'
    by_cases he : j = j'
    · rw [if_pos he] at hj'; cases hj'
    · rw [if_neg he] at hj'
      rw [jobOf_ins hn]
      split
      · intro e; cases e; exact he rfl
      · exact h.ofN j' hj' c'
  · rw [getI_putI] at hu
    by_cases he : j = j'
    · subst he
      rw [if_pos rfl] at hu; cases hu
      refine ⟨by simp [putI, keysI], put_ne, fun c' => ?_⟩
      rw [mem_keys_put, jobOf_ins hn]
      have h0 := h.ofN j hv c'
      by_cases hc : c = c'
      · simp [hc]
      · have : ¬ c' = c := fun e => hc e.symm
        simp [hc, this, keysI, h0]
    · rw [if_neg he] at hu
      obtain ⟨h1, h2, h3⟩ := h.ofS j' u hu
      refine ⟨h1, h2, fun c' => ?_⟩
      rw [h3, jobOf_ins hn]
      by_cases hc : c = c'
      · subst hc
        simp [hn, he]
      · simp [hc]
theorem Rep.takeMore (h : Rep x s) (hc : jobOf x c = some j) (hv : getI s.om j = some v) (hne : delI v.2 c ≠ []) : Rep (without x c) { s with pm := delI s.pm c, om := putI s.om j (v.1, delI v.2 c) } := by
  refine ⟨up_filter h.up, nodup_del h.pn, nodup_put h.on, fun c' => ?_, fun j' hj' c' => ?_, fun j' u hu => ?_⟩
  · rw [getI_delI, jobOf_without, h.by_]
  · rw [getI_putI] at hj'
    by_cases he : j = j'
    · rw [if_pos he] at hj'; cases hj'
    · rw [if_neg he] at hj'
      rw [jobOf_without]
      split
      · simp
      · exact h.ofN j' hj' c'
  · rw [getI_putI] at hu
    by_cases he : j = j'
    · subst he
      rw [if_pos rfl] at hu; cases hu
      obtain ⟨h1, h2, h3⟩ := h.ofS j v hv
      refine ⟨nodup_del h1, hne, fun c' => ?_⟩
      rw [mem_keys_del, jobOf_without, h3]
      by_cases hcc : c = c'
      · simp [hcc]
      · have : ¬ c' = c := fun e => hcc e.symm
        simp [hcc, this]
    · rw [if_neg he] at hu
      obtain ⟨h1, h2, h3⟩ := h.ofS j' u hu
      refine ⟨h1, h2, fun c' => ?_⟩
      rw [h3, jobOf_without]
      by_cases hcc : c = c'
      · subst hcc
        simp [hc, he]
      · simp [hcc]
theorem Rep.takeLast (h : Rep x s) (hc : jobOf x c = some j) (hv : getI s.om j = some v) (hne : delI v.2 c = []) : Rep (without x c) { s with pm := delI s.pm c, om := delI s.om j } := by
  have h3 := (h.ofS j v hv).2.2
  have hall : ∀ c', jobOf x c' = some j → c' = c := fun c' hc' => by
    rcases Decidable.em (c' = c) with he | he
    · exact he
    · have : c' ∈ keysI (delI v.2 c) := mem_keys_del.2 ⟨he, (h3 c').2 hc'⟩
      rw [hne] at this; simp [keysI] at this
  refine ⟨up_filter h.up, nodup_del h.pn, nodup_del h.on, fun c' => ?_, fun j' hj' c' => ?_, fun j' u hu => ?_⟩
  · rw [getI_delI, jobOf_without, h.by_]
  · rw [getI_delI] at hj'
    rw [jobOf_without]
    by_cases hcc : c = c'
    · simp [hcc]
    · rw [if_neg hcc]
      by_cases he : j = j'
      · subst he
        exact fun hx => hcc (hall c' hx).symm
      · rw [if_neg he] at hj'
        exact h.ofN j' hj' c'
  · rw [getI_delI] at hu
    by_cases he : j = j'
    · rw [if_pos he] at hu; cases hu
    · rw [if_neg he] at hu
      obtain ⟨h1, h2, h3⟩ := h.ofS j' u hu
      refine ⟨h1, h2, fun c' => ?_⟩
      rw [h3, jobOf_without]
      by_cases hcc : c = c'
      · subst hcc
        simp [hc, he]
      · simp [hcc]
end
end Go.LK.Wt
namespace Go.LK
open Go Wt
section
variable {T p : Nat} {s : Ws} {j : Int} {v : Nat × List (Int × Int)}
theorem wt_at {A : Sp} (hA : A ∈ Ws.L T p s) : ∃ B ∈ [wt T p s], ∀ w, B.holds w → A.holds w ∧ ∀ k ∈ A.foot, k ∈ B.foot := ⟨_, List.mem_singleton_self _, bun_at hA⟩
theorem wt_in (hv : (j, v) ∈ s.om) : ∃ B ∈ [wt T p s], ∀ w, B.holds w → (mi v.1 (Value.int .i64) v.2).holds w ∧ ∀ k ∈ (mi v.1 (Value.int .i64) v.2).foot, k ∈ B.foot := by
  refine ⟨_, List.mem_singleton_self _, fun w hw => ?_⟩
  obtain ⟨h1, h2⟩ := bun_at (A := bun (s.om.map inA)) (As := Ws.L T p s) (by simp [Ws.L]) w hw
  obtain ⟨h3, h4⟩ := bun_at (A := inA (j, v)) (List.mem_map.2 ⟨_, hv, rfl⟩) w h1
  exact ⟨h3, fun k hk => h2 k (h4 k hk)⟩
theorem wt_shut {b o : Nat} {pm : List (Int × Int)} {om om' : List (Int × (Nat × List (Int × Int)))} (h : om.map (fun q => (q.1, vO q.2)) = om'.map fun q => (q.1, vO q.2)) :
    Re [bun (om'.map inA), var p [.map (some b), .map (some o)] T, mi b (Value.int .i64) pm, mi o vO om] [wt T p ⟨b, o, pm, om'⟩] :=
  (Re.sel [3, 0, 1, 2] (by decide) rfl).trans ((Re.imp (B := mi o vO om') (mi_congr h) rfl).trans ((Re.sel [2, 3, 0, 1] (by decide) rfl).trans Re.bunIn1))
theorem wt_lay : Re [wt T p s] [bun (s.om.map inA), var p [.map (some s.b), .map (some s.o)] T, mi s.b (Value.int .i64) s.pm, mi s.o vO s.om] := Re.bunOut1.trans (Re.sel [3, 0, 1, 2] (by decide) rfl)
/-- One of the inner maps, taken out; and put back. -/
theorem wt_open (hn : (keysI s.om).Nodup) (hv : getI s.om j = some v) : ∃ R : List Sp, Re [wt T p s] [mi v.1 (Value.int .i64) v.2, bun R, var p [.map (some s.b), .map (some s.o)] T, mi s.b (Value.int .i64) s.pm, mi s.o vO s.om] ∧
    (∀ u pm', Re [mi v.1 (Value.int .i64) u, bun R, var p [.map (some s.b), .map (some s.o)] T, mi s.b (Value.int .i64) pm', mi s.o vO s.om] [wt T p ⟨s.b, s.o, pm', putI s.om j (v.1, u)⟩]) ∧
    ∀ pm', Re [bun R, var p [.map (some s.b), .map (some s.o)] T, mi s.b (Value.int .i64) pm', mi s.o vO (delI s.om j)] [wt T p ⟨s.b, s.o, pm', delI s.om j⟩] := by
  obtain ⟨A, B, h1, _, h3⟩ := getI_split (u := v) hv hn
  refine ⟨A.map inA ++ B.map inA, ?_, fun u pm' => ?_, fun pm' => ?_⟩
  · refine wt_lay.trans (Re.out (As1 := A.map inA) (As2 := B.map inA) (B := inA (j, v)) ?_)
    conv => lhs; rw [h1]
    simp
  · obtain ⟨A', B', h1', h2', h3'⟩ := getI_split (u := (v.1, u)) hv hn
    have hAB : A' = A ∧ B' = B := by
      have hne : ∀ (A A' B B' : List (Int × (Nat × List (Int × Int)))), (keysI (A ++ (j, v) :: B)).Nodup → A ++ (j, v) :: B = A' ++ (j, v) :: B' → A' = A ∧ B' = B := by
        intro A
        induction A with
        | nil =>
          intro A' B B' hnd he
          cases A' with
          | nil => simp at he; exact ⟨rfl, he.symm⟩
          | cons q A' =>
            simp only [List.nil_append, List.cons_append, List.cons.injEq] at he
            obtain ⟨hq, he⟩ := he
            simp only [List.nil_append, keysI, List.map_cons, List.nodup_cons] at hnd
            exfalso; apply hnd.1; rw [he]; simp
        | cons q A ih =>
          intro A' B B' hnd he
          cases A' with
          | nil =>
            simp only [List.nil_append, List.cons_append, List.cons.injEq] at he
            obtain ⟨hq, he⟩ := he
            simp only [List.cons_append, keysI, List.map_cons, List.nodup_cons] at hnd
            exfalso; apply hnd.1; rw [hq]; simp
          | cons q' A' =>
            simp only [List.cons_append, List.cons.injEq] at he
            simp only [List.cons_append, keysI, List.map_cons, List.nodup_cons] at hnd
            obtain ⟨h1, h2⟩ := ih A' B B' hnd.2 he.2
            exact ⟨by rw [h1, he.1], h2⟩
      exact hne A A' B B' (h1 ▸ hn) (h1.symm.trans h1')
    obtain ⟨rfl, rfl⟩ := hAB
    refine (Re.back (As := (putI s.om j (v.1, u)).map inA) (As1 := A'.map inA) (As2 := B'.map inA) (B := inA (j, (v.1, u))) (by rw [h2']; simp)).trans (wt_shut ?_)
    rw [h2']
    conv => lhs; rw [h1]
    simp [vO]
  · have : A.map inA ++ B.map inA = (delI s.om j).map inA := by rw [h3]; simp
    rw [this]
    exact wt_shut rfl
/-- One more inner map. -/
theorem wt_more (hv : getI s.om j = none) (q : Nat) (u u0 : List (Int × Int)) (pm' : List (Int × Int)) : Re [mi q (Value.int .i64) u, bun (s.om.map inA), var p [.map (some s.b), .map (some s.o)] T, mi s.b (Value.int .i64) pm', mi s.o vO (putI s.om j (q, u0))] [wt T p ⟨s.b, s.o, pm', putI s.om j (q, u)⟩] := by
  refine (Re.into (B := mi q (Value.int .i64) u)).trans ?_
  have : s.om.map inA ++ [mi q (Value.int .i64) u] = (putI s.om j (q, u)).map inA := by rw [putI_new hv]; simp [inA]
  rw [this]
  refine wt_shut ?_
  rw [putI_new hv, putI_new hv]
  simp [vO]
theorem wt_none {b o : Nat} : Re [var p [.map (some b), .map (some o)] T, mi b (Value.int .i64) [], mi o vO []] [wt T p ⟨b, o, [], []⟩] := Re.new.trans (wt_shut (om' := []) rfl)
end
end Go.LK
namespace Go.LK.Wt
open Go Go.LK
theorem ofJ_len {l : List Pr} {j : Int} : (ofJ l j).length ≤ l.length := by unfold ofJ; rw [List.length_map]; exact List.length_filter_le _ _
/-- What is left behind the first k of these calls. -/
def cut (x : List Pr) (l : List Int) (k : Nat) : List Pr := (l.take k).foldl without x
theorem cut_next {x : List Pr} {l : List Int} {k : Nat} {c : Int} (h : l[k]? = some c) : cut x l (k + 1) = without (cut x l k) c := by
  unfold cut; rw [List.take_add_one, h, List.foldl_append]; rfl
theorem foldl_without : ∀ {l : List Int} {x : List Pr}, l.foldl without x = x.filter fun p => decide (p.call ∉ l)
  | [], x => (List.filter_eq_self.2 fun _ _ => by simp).symm
  | c :: l, x => by
    rw [List.foldl_cons, foldl_without, without, List.filter_filter]
    refine List.filter_congr fun p _ => ?_
    by_cases h : p.call = c <;> simp [h]
theorem cut_drop {x : List Pr} {j : Int} {k : Nat} (hu : Jb.Up (calls x)) (hk : (ofJ x j).length ≤ k) : cut x (ofJ x j) k = drop x j := by
  unfold cut drop
  rw [List.take_of_length_le hk, foldl_without]
  refine List.filter_congr fun p hp => ?_
  have hin : p.call ∈ ofJ x j ↔ p.job = j := by
    rw [mem_ofJ hu]
    have : jobOf x p.call = some p.job := by
      clear hk
      induction x with
      | nil => simp at hp
      | cons q x ih =>
        have hu' := List.pairwise_cons.1 (show List.Pairwise (· < ·) (q.call :: calls x) from hu)
        simp only [jobOf]
        rcases List.mem_cons.1 hp with rfl | hp
        · simp
        · have := hu'.1 p.call (List.mem_map.2 ⟨p, hp, rfl⟩)
          rw [if_neg (by omega)]
          exact ih hu'.2 hp
    rw [this]; simp
  simp [hin]
end Go.LK.Wt
