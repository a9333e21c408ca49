/-
  Several texts in one: Job0, Job1, Wait0.
-/
import Derived.Test.YtohjlkjhpibkmaaGreatDoorLk9
import Derived.Lib.SlicesCompact
import Derived.Sort.OwnSortedInts
import Derived.Lib.RowBridge
import Derived.Test.YtohjlkjhpibkmaaGreatDoorLkE
namespace Go.LK.Jb
open Go Go.LK
/-- A number set into a rising row. -/
def ins0 : List Int → Int → List Int
  | [], x => [x]
  | y :: o, x => if y < x then y :: ins0 o x else x :: y :: o
def ins (o : List Int) (x : Int) : List Int := if x ∈ o then o else ins0 o x
def rising (l : List Int) : List Int := l.foldl ins []
abbrev Up (o : List Int) : Prop := o.Pairwise (· < ·)
theorem mem_ins0 {o : List Int} {x y : Int} : y ∈ ins0 o x ↔ y = x ∨ y ∈ o := by
  induction o with
  | nil => simp [ins0]
  | cons z o ih =>
    unfold ins0
    split
    · simp only [List.mem_cons, ih]
      constructor
      · rintro (h | h | h) <;> simp [h]
      · rintro (h | h | h) <;> simp [h]
    · simp only [List.mem_cons]
theorem up_ins0 {o : List Int} {x : Int} (h : Up o) (hx : x ∉ o) : Up (ins0 o x) := by
  induction o with
  | nil => simp [ins0]
  | cons z o ih =>
    have hz := List.pairwise_cons.1 h
    have hxz : x ≠ z := fun he => hx (by simp [he])
    unfold ins0
    split
    · rename_i hlt
      refine List.pairwise_cons.2 ⟨fun y hy => ?_, ih hz.2 fun he => hx (List.mem_cons_of_mem _ he)⟩
      rcases mem_ins0.1 hy with rfl | hy
      · exact hlt
      · exact hz.1 y hy
    · rename_i hlt
      refine List.pairwise_cons.2 ⟨fun y hy => ?_, h⟩
      rcases List.mem_cons.1 hy with rfl | hy
      · omega
      · have := hz.1 y hy
        omega
theorem mem_ins {o : List Int} {x y : Int} : y ∈ ins o x ↔ y = x ∨ y ∈ o := by
  unfold ins
  split
  · rename_i h
    constructor
    · exact .inr
    · rintro (rfl | h2)
      · exact h
      · exact h2
  · exact mem_ins0
theorem up_ins {o : List Int} {x : Int} (h : Up o) : Up (ins o x) := by
  unfold ins
  split
  · exact h
  · exact up_ins0 h (by assumption)
theorem up_foldl {l o : List Int} (h : Up o) : Up (l.foldl ins o) := by
  induction l generalizing o with
  | nil => exact h
  | cons x l ih => exact ih (up_ins h)
theorem mem_foldl {l o : List Int} {y : Int} : y ∈ l.foldl ins o ↔ y ∈ l ∨ y ∈ o := by
  induction l generalizing o with
  | nil => simp
  | cons x l ih =>
    rw [List.foldl_cons, ih, mem_ins, List.mem_cons]
    constructor
    · rintro (h | h | h) <;> simp [h]
    · rintro ((h | h) | h) <;> simp [h]
theorem rising_up (l : List Int) : Up (rising l) := up_foldl .nil
theorem mem_rising {l : List Int} {y : Int} : y ∈ rising l ↔ y ∈ l := by rw [rising, mem_foldl]; simp
theorem up_ext {a b : List Int} (ha : Up a) (hb : Up b) (h : ∀ x, x ∈ a ↔ x ∈ b) : a = b := by
  induction a generalizing b with
  | nil =>
    cases b with
    | nil => rfl
    | cons y b => exact absurd ((h y).2 (by simp)) (by simp)
  | cons x a ih =>
    cases b with
    | nil => exact absurd ((h x).1 (by simp)) (by simp)
    | cons y b =>
      have h1 := List.pairwise_cons.1 ha
      have h2 := List.pairwise_cons.1 hb
      have hxy : x = y := by
        rcases List.mem_cons.1 ((h x).1 (by simp)) with he | he
        · exact he
        · rcases List.mem_cons.1 ((h y).2 (by simp)) with hf | hf
          · exact hf.symm
          · have := h2.1 x he; have := h1.1 y hf; omega
      subst hxy
      rw [ih h1.2 h2.2 fun z => ⟨fun hz => ?_, fun hz => ?_⟩]
      · rcases List.mem_cons.1 ((h z).1 (List.mem_cons_of_mem _ hz)) with he | he
        · have := h1.1 z hz; omega
        · exact he
      · rcases List.mem_cons.1 ((h z).2 (List.mem_cons_of_mem _ hz)) with he | he
        · have := h2.1 z hz; omega
        · exact he
/-! ### What Go's library makes of it -/
/-! ### One of them is answered -/
end Go.LK.Jb

namespace Go.LK
structure An where
  call : Int
  code : Int
def An.cells (e : An) : List Value := [.int .i64 e.call, .int .i64 e.code]
theorem An.one {l : List An} : ∀ a ∈ l, (An.cells a).all Value.oneCell' = true := fun _ _ => rfl
def encBo (b : Bool) : List Value := [.bool b]
theorem encBo.one {l : List Bool} : ∀ a ∈ l, (encBo a).all Value.oneCell' = true := fun _ _ => rfl
end Go.LK
namespace Go.LK.Jb
open Go Go.LK
def without (l : List Int) (c : Int) : List Int := l.filter fun x => decide (x ≠ c)
/-! ### Who was heard -/
def seen (l : List An) (k : Nat) (x : Int) : Bool := (l.take k).any fun a => decide (a.call = x)
def rem (needs : List Int) (l : List An) (k : Nat) : List Int := (rising needs).filter fun x => !seen l k x
section
variable {needs : List Int} {l : List An} {k q : Nat} {a : An} {x : Int}
end
end Go.LK.Jb

namespace Go.LK
structure Pr where
  call : Int
  job : Int
def Pr.cells (e : Pr) : List Value := [.int .i64 e.call, .int .i64 e.job]
theorem Pr.one {l : List Pr} : ∀ a ∈ l, (Pr.cells a).all Value.oneCell' = true := fun _ _ => rfl
structure Ac where
  kind : Int
  call : Int
  job : Int
def Ac.cells (e : Ac) : List Value := [.int .i64 e.kind, .int .i64 e.call, .int .i64 e.job]
structure Ws where
  b : Nat
  o : Nat
  pm : List (Int × Int)
  om : List (Int × (Nat × List (Int × Int)))
def vO (v : Nat × List (Int × Int)) : Value := .map (some v.1)
def inA (p : Int × (Nat × List (Int × Int))) : Sp := mi p.2.1 (Value.int .i64) p.2.2
def Ws.L (T p : Nat) (s : Ws) : List Sp := [var p [.map (some s.b), .map (some s.o)] T, mi s.b (Value.int .i64) s.pm, mi s.o vO s.om, bun (s.om.map inA)]
section
variable {α : Type} {m : List (Int × α)} {k : Int} {v u : α}
end
end Go.LK
namespace Go.LK.Wt
open Go Go.LK
def jobOf : List Pr → Int → Option Int
  | [], _ => none
  | p :: l, c => if p.call = c then some p.job else jobOf l c
def without (l : List Pr) (c : Int) : List Pr := l.filter fun p => decide (p.call ≠ c)
def ofJ (l : List Pr) (j : Int) : List Int := (l.filter fun p => decide (p.job = j)).map Pr.call
def drop (l : List Pr) (j : Int) : List Pr := l.filter fun p => decide (p.job ≠ j)
def ins : List Pr → Int → Int → List Pr
  | [], c, j => [⟨c, j⟩]
  | p :: l, c, j => if p.call < c then p :: ins l c j else ⟨c, j⟩ :: p :: l
def add (l : List Pr) (c j : Int) : List Pr := if (jobOf l c).isSome then l else ins l c j
def calls (l : List Pr) : List Int := l.map Pr.call
section
variable {l : List Pr} {c c' j j' : Int}
theorem calls_cons {p : Pr} : calls (p :: l) = p.call :: calls l := rfl
theorem jobOf_mem : (∃ j, jobOf l c = some j) ↔ c ∈ calls l := by
  induction l with
  | nil => simp [jobOf, calls]
  | cons p l ih =>
    rw [calls_cons, List.mem_cons]; simp only [jobOf]
    by_cases h : p.call = c
    · simp [h]
    · rw [if_neg h, ih]
      constructor
      · exact .inr
      · rintro (h1 | h1)
        · exact absurd h1.symm h
        · exact h1
theorem calls_ins : ∀ x, x ∈ calls (ins l c j) ↔ x = c ∨ x ∈ calls l := by
  induction l with
  | nil => intro x; simp [ins, calls]
  | cons p l ih =>
    intro x
    simp only [ins]
    split
    · rw [calls_cons, calls_cons, List.mem_cons, List.mem_cons, ih]
      constructor
      · rintro (h | h | h)
        · exact .inr (.inl h)
        · exact .inl h
        · exact .inr (.inr h)
      · rintro (h | h | h)
        · exact .inr (.inl h)
        · exact .inl h
        · exact .inr (.inr h)
    · rw [calls_cons, List.mem_cons]
theorem up_ins (hu : Jb.Up (calls l)) (hn : jobOf l c = none) : Jb.Up (calls (ins l c j)) := by
  induction l with
  | nil => simp [ins, calls, Jb.Up]
  | cons p l ih =>
    have hu' := List.pairwise_cons.1 (show List.Pairwise (· < ·) (p.call :: calls l) from hu)
    simp only [jobOf] at hn
    by_cases h : p.call = c
    · rw [if_pos h] at hn; cases hn
    · rw [if_neg h] at hn
      simp only [ins]
      split
      · rename_i hlt
        refine List.pairwise_cons.2 ⟨fun x hx => ?_, ih hu'.2 hn⟩
        rcases (calls_ins x).1 hx with rfl | hx
        · exact hlt
        · exact hu'.1 x hx
      · rename_i hlt
        refine List.pairwise_cons.2 ⟨fun x hx => ?_, hu⟩
        have hcp : c < p.call := by
          have : (⟨c, j⟩ : Pr).call = c := rfl
          omega
        rcases List.mem_cons.1 (show x ∈ p.call :: calls l from hx) with rfl | hx
        · exact hcp
        · exact Int.lt_trans hcp (hu'.1 x hx)
theorem up_filter {f : Pr → Bool} (hu : Jb.Up (calls l)) : Jb.Up (calls (l.filter f)) := List.Pairwise.sublist (List.Sublist.map _ List.filter_sublist) hu
theorem mem_ofJ (hu : Jb.Up (calls l)) : c ∈ ofJ l j ↔ jobOf l c = some j := by
  induction l with
  | nil => simp [ofJ, jobOf]
  | cons p l ih =>
    have hu' := List.pairwise_cons.1 (show List.Pairwise (· < ·) (p.call :: calls l) from hu)
    have h0 : ofJ (p :: l) j = if p.job = j then p.call :: ofJ l j else ofJ l j := by
      unfold ofJ; rw [List.filter_cons]; by_cases h : p.job = j <;> simp [h]
    rw [h0]; simp only [jobOf]
    by_cases h : p.call = c
    · rw [if_pos h]
      have hno : c ∉ calls l := fun hc => by have := hu'.1 c hc; omega
      have hno2 : c ∉ ofJ l j := fun hc => by
        obtain ⟨q, hq, he⟩ := List.mem_map.1 hc
        exact hno (List.mem_map.2 ⟨q, (List.mem_filter.1 hq).1, he⟩)
      by_cases hj : p.job = j
      · simp [hj, h]
      · simp [hj, hno2]
    · rw [if_neg h, ← ih hu'.2]
      have h' : ¬ c = p.call := fun e => h e.symm
      by_cases hj : p.job = j
      · simp [hj, h']
      · simp [hj]
theorem up_ofJ (hu : Jb.Up (calls l)) : Jb.Up (ofJ l j) := up_filter hu
/-- What the maps tell is what the pairs tell. -/
structure Rep (x : List Pr) (s : Ws) : Prop where
  up : Jb.Up (calls x)
  pn : (keysI s.pm).Nodup
  on : (keysI s.om).Nodup
  by_ : ∀ c, getI s.pm c = jobOf x c
  ofN : ∀ j, getI s.om j = none → ∀ c, jobOf x c ≠ some j
  ofS : ∀ j v, getI s.om j = some v → (keysI v.2).Nodup ∧ v.2 ≠ [] ∧ ∀ c, c ∈ keysI v.2 ↔ jobOf x c = some j
theorem Rep.new {b o : Nat} : Rep [] ⟨b, o, [], []⟩ := ⟨by simp [calls, Jb.Up], by simp [keysI], by simp [keysI], fun _ => rfl, fun _ _ _ => by simp [jobOf], fun j v h => by simp [getI] at h⟩
variable {x : List Pr} {s : Ws} {v : Nat × List (Int × Int)}
theorem Rep.len (h : Rep x s) : s.pm.length = x.length := by
  have h1 : (keysI s.pm).Perm (calls x) := (List.perm_ext_iff_of_nodup h.pn (h.up.imp (fun hab => Int.ne_of_lt hab))).2 fun c => by
    rw [← getI_mem, ← jobOf_mem, h.by_]
  have := h1.length_eq
  simpa [keysI, calls] using this
theorem Rep.keys (h : Rep x s) (hv : getI s.om j = some v) : Jb.rising (keysI v.2) = ofJ x j := by
  obtain ⟨_, _, h3⟩ := h.ofS j v hv
  exact Jb.up_ext (Jb.rising_up _) (up_ofJ h.up) fun c => by rw [Jb.mem_rising, h3, mem_ofJ h.up]
end
end Go.LK.Wt
namespace Go.LK
open Go Wt
section
variable {T p : Nat} {s : Ws} {j : Int} {v : Nat × List (Int × Int)}
end
end Go.LK
namespace Go.LK.Wt
open Go Go.LK
/-- What is left behind the first k of these calls. -/
def cut (x : List Pr) (l : List Int) (k : Nat) : List Pr := (l.take k).foldl without x
theorem cut_next {x : List Pr} {l : List Int} {k : Nat} {c : Int} (h : l[k]? = some c) : cut x l (k + 1) = without (cut x l k) c := by
  unfold cut; rw [List.take_add_one, h, List.foldl_append]; rfl
end Go.LK.Wt
