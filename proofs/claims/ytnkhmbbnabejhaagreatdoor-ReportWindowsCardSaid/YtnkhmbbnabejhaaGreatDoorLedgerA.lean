/-
  Several texts in one: Ledger0, Ledger1, Ledger2.
-/
import Derived.Test.YtnkhmbbnabejhaaGreatDoorLk10
import Derived.Test.YtnkhmbbnabejhaaGreatDoorMono0
namespace Go.LK
open Go

structure Ft where
  s : Int
  id : Int
  state : Int
  level : Int
  code : Int
  came : Int
  began : Int
  ended : Int
def Ft.cells (e : Ft) : List Value := [.int .i64 e.s, .int .i64 e.id, .int .i64 e.state, .int .i64 e.level, .int .i64 e.code, .int .i64 e.came, .int .i64 e.began, .int .i64 e.ended]
theorem Ft.one {l : List Ft} : ∀ a ∈ l, (Ft.cells a).all Value.oneCell' = true := fun _ _ => rfl

namespace Ld
def isOpen (x : Ft) : Bool := decide (1 ≤ x.state) && decide (x.state ≤ 3)
def there (x : Ft) : Bool := decide (x.state = 2) || decide (x.state = 3)
def lastU (out : List Ft) (s id : Int) : Nat → Option Nat
  | 0 => none
  | k + 1 => match out[k]? with
    | some x => if x.s = s ∧ x.id = id then some k else lastU out s id k
    | none => lastU out s id k
def lastI (out : List Ft) (s id : Int) : Option Nat := lastU out s id out.length
theorem lastU_app {out : List Ft} {x : Ft} {s id : Int} : ∀ {k : Nat}, k ≤ out.length → lastU (out ++ [x]) s id k = lastU out s id k
  | 0, _ => rfl
  | k + 1, h => by
    have h1 : (out ++ [x])[k]? = out[k]? := List.getElem?_append_left (by omega)
    have h2 : lastU (out ++ [x]) s id k = lastU out s id k := lastU_app (by omega)
    simp only [lastU, h1, h2]
theorem lastI_app {out : List Ft} {x : Ft} {s id : Int} : lastI (out ++ [x]) s id = if x.s = s ∧ x.id = id then some out.length else lastI out s id := by
  unfold lastI
  rw [List.length_append, List.length_singleton]
  simp only [lastU, lastU_app (Nat.le_refl _)]
  simp
theorem lastU_set {out : List Ft} {x y : Ft} {j : Nat} {s id : Int} (hj : out[j]? = some y) (h1 : x.s = y.s) (h2 : x.id = y.id) : ∀ k, lastU (out.set j x) s id k = lastU out s id k
  | 0 => rfl
  | k + 1 => by
    have ih := lastU_set (s := s) (id := id) hj h1 h2 k
    simp only [lastU, ih, List.getElem?_set]
    by_cases hjk : j = k
    · subst hjk
      have hlt := (List.getElem?_eq_some_iff.1 hj).1
      rw [hj]
      simp only [hlt, if_true, h1, h2]
    · simp [hjk]
theorem lastI_set {out : List Ft} {x y : Ft} {j : Nat} {s id : Int} (hj : out[j]? = some y) (h1 : x.s = y.s) (h2 : x.id = y.id) : lastI (out.set j x) s id = lastI out s id := by
  unfold lastI
  rw [List.length_set]
  exact lastU_set hj h1 h2 _
theorem lastU_some {out : List Ft} {s id : Int} : ∀ {k j : Nat}, k ≤ out.length → lastU out s id k = some j → j < k ∧ ∃ x, out[j]? = some x ∧ x.s = s ∧ x.id = id
  | 0, j, _, h => by simp [lastU] at h
  | k + 1, j, hk, h => by
    have h1 : out[k]? = some (out[k]'(by omega)) := List.getElem?_eq_getElem (by omega)
    simp only [lastU, h1] at h
    by_cases h2 : (out[k]'(by omega)).s = s ∧ (out[k]'(by omega)).id = id
    · rw [if_pos h2] at h; cases h
      exact ⟨by omega, _, h1, h2.1, h2.2⟩
    · rw [if_neg h2] at h
      obtain ⟨h3, h4⟩ := lastU_some (by omega) h
      exact ⟨by omega, h4⟩
theorem lastI_some {out : List Ft} {s id : Int} {j : Nat} (h : lastI out s id = some j) : j < out.length ∧ ∃ x, out[j]? = some x ∧ x.s = s ∧ x.id = id := lastU_some (Nat.le_refl _) h
/-- From behind: nothing among the last ones. -/
theorem lastI_at {out : List Ft} {s id : Int} {j : Nat} {x : Ft} (hx : out[j]? = some x) (h1 : x.s = s) (h2 : x.id = id) (hn : ∀ (i : Nat) (y : Ft), j < i → out[i]? = some y → ¬ (y.s = s ∧ y.id = id)) : lastI out s id = some j := by
  have key : ∀ k, j < k → k ≤ out.length → lastU out s id k = some j := by
    intro k
    induction k with
    | zero => intro h; omega
    | succ k ih =>
      intro hk hkl
      simp only [lastU]
      by_cases hjk : j = k
      · subst hjk; simp [hx, h1, h2]
      · have h3 : out[k]? = some (out[k]'(by omega)) := List.getElem?_eq_getElem (by omega)
        rw [h3]
        simp only [if_neg (hn k _ (by omega) h3)]
        exact ih (by omega) (by omega)
  exact key _ (List.getElem?_eq_some_iff.1 hx).1 (Nat.le_refl _)
theorem lastI_no {out : List Ft} {s id : Int} (hn : ∀ (i : Nat) (y : Ft), out[i]? = some y → ¬ (y.s = s ∧ y.id = id)) : lastI out s id = none := by
  have key : ∀ k, lastU out s id k = none := by
    intro k
    induction k with
    | zero => rfl
    | succ k ih =>
      simp only [lastU]
      cases h : out[k]? with
      | none => exact ih
      | some y => simp only [if_neg (hn k y h)]; exact ih
  exact key _

def fresh (e : Ev) : Ft := ⟨e.s, e.id, if e.code ≠ 0 then 1 else 2, e.a, e.code, e.tick, 0, 0⟩
def may (kind : Int) (x : Ft) (e : Ev) : Bool :=
  if kind = 3 then decide (x.state = 2) else if kind = 4 then isOpen x && (decide (x.state ≠ 1) || decide (x.code = e.code)) else if kind = 12 then there x else decide (x.state = 3)
def does (kind : Int) (x : Ft) (e : Ev) : Ft :=
  if kind = 3 then { x with state := 3, began := e.tick } else if kind = 4 then { x with state := 4, code := e.code, ended := e.tick } else if kind = 12 then { x with state := 5, ended := e.tick } else x
def ruled (kind : Int) : Bool := decide (kind = 3) || decide (kind = 4) || decide (kind = 12) || decide (kind = 5) || decide (kind = 6)
def step (out : List Ft) (e : Ev) : Option (List Ft) :=
  match (lastI out e.s e.id).bind (out[·]?) with
  | some x =>
    if e.kind = 1 then (if isOpen x then none else some (out ++ [fresh e]))
    else if ruled e.kind then (if may e.kind x e then some (out.set ((lastI out e.s e.id).getD 0) (does e.kind x e)) else none) else some out
  | none => if e.kind = 1 then some (out ++ [fresh e]) else if ruled e.kind then none else some out
def readU (l : List Ev) : Nat → Option (List Ft)
  | 0 => some []
  | k + 1 => match readU l k, l[k]? with
    | some out, some e => step out e
    | some out, none => some out
    | none, _ => none
def read (l : List Ev) : List Ft × Int × Int := match readU l l.length with
  | some out => (out, 0, 0)
  | none => ([], (((List.range l.length).find? fun k => (readU l (k + 1)).isNone).getD 0 : Nat), 12)
theorem readU_succ {l : List Ev} {k : Nat} {out : List Ft} {e : Ev} (h : readU l k = some out) (he : l[k]? = some e) : readU l (k + 1) = step out e := by simp [readU, h, he]
theorem readU_none {l : List Ev} {k : Nat} (h : readU l k = none) : ∀ m, k ≤ m → readU l m = none := by
  intro m
  induction m with
  | zero => intro hm; have : k = 0 := by omega
            subst this; exact h
  | succ m ih =>
    intro hm
    by_cases hkm : k = m + 1
    · subst hkm; exact h
    · simp [readU, ih (by omega)]
theorem read_at {l : List Ev} {k : Nat} {out : List Ft} {e : Ev} (h : readU l k = some out) (he : l[k]? = some e) (hs : step out e = none) : read l = ([], (k : Int), 12) := by
  have hlt := (List.getElem?_eq_some_iff.1 he).1
  have h1 : readU l (k + 1) = none := by rw [readU_succ h he, hs]
  have h2 : readU l l.length = none := readU_none h1 _ (by omega)
  have h3 : (List.range l.length).find? (fun k => (readU l (k + 1)).isNone) = some k := find_at (k := k) (fun j y hj hy => by
    have h4 : j = y := by have h5 := hy; rw [List.getElem?_range (by omega)] at h5; exact Option.some.inj h5
    subst h4
    cases h5 : readU l (j + 1) with
    | some _ => rfl
    | none => have := readU_none h5 k (by omega); rw [h] at this; cases this) (by rw [List.getElem?_range hlt]) (by simp [h1])
  unfold read
  rw [h2, h3]; rfl
theorem read_all {l : List Ev} {out : List Ft} (h : readU l l.length = some out) : read l = (out, 0, 0) := by simp [read, h]
theorem step_len {out out' : List Ft} {e : Ev} (h : step out e = some out') : out'.length ≤ out.length + 1 := by
  unfold step at h
  repeat' split at h
  all_goals first | (cases h; simp) | cases h

/-- The table of last places goes with the list of fates. -/
def Fits (pm : List (List Int × Int)) (out : List Ft) : Prop := ∀ s id, getM pm [s, id] = (lastI out s id).map fun n => (n : Int)
theorem fits_nil : Fits [] [] := fun _ _ => rfl
theorem fits_app {pm : List (List Int × Int)} {out : List Ft} {x : Ft} (h : Fits pm out) : Fits (setM pm [x.s, x.id] (out.length : Int)) (out ++ [x]) := fun s id => by
  rw [getM_setM, lastI_app]
  by_cases hc : x.s = s ∧ x.id = id
  · have : [x.s, x.id] = [s, id] := by simp [hc]
    simp [hc]
  · have h2 : ¬ [x.s, x.id] = [s, id] := by simpa using hc
    rw [if_neg h2, if_neg hc]; exact h s id
theorem fits_set {pm : List (List Int × Int)} {out : List Ft} {x y : Ft} {j : Nat} (h : Fits pm out) (hj : out[j]? = some y) (h1 : x.s = y.s) (h2 : x.id = y.id) : Fits pm (out.set j x) := fun s id => by
  rw [lastI_set hj h1 h2]; exact h s id

theorem fits_at {pm : List (List Int × Int)} {out : List Ft} {s id : Int} (h : Fits pm out) (hs : (getM pm [s, id]).isSome = true) :
    0 ≤ (getM pm [s, id]).getD 0 ∧ (getM pm [s, id]).getD 0 < out.length ∧ ((getM pm [s, id]).getD 0).toNat < out.length ∧ lastI out s id = some ((getM pm [s, id]).getD 0).toNat := by
  rw [h s id] at hs ⊢
  cases hl : lastI out s id with
  | none => rw [hl] at hs; simp at hs
  | some j =>
    have := (lastI_some hl).1
    simp; omega
theorem fits_no {pm : List (List Int × Int)} {out : List Ft} {s id : Int} (h : Fits pm out) (hs : (getM pm [s, id]).isSome = false) : lastI out s id = none := by
  rw [h s id] at hs
  cases hl : lastI out s id with
  | none => rfl
  | some j => rw [hl] at hs; simp at hs
def cameF (out : List Ft) (e : Ev) : Option (List Ft) := match (lastI out e.s e.id).bind (out[·]?) with
  | some x => if isOpen x then none else some (out ++ [fresh e])
  | none => some (out ++ [fresh e])
theorem cameF_open {pm : List (List Int × Int)} {out : List Ft} {e : Ev} {x : Ft} (h : Fits pm out) (hs : (getM pm [e.s, e.id]).isSome = true) (hx : out[((getM pm [e.s, e.id]).getD 0).toNat]? = some x) (ho : isOpen x = true) : cameF out e = none := by
  simp [cameF, (fits_at h hs).2.2.2, hx, ho]
theorem cameF_shut {pm : List (List Int × Int)} {out : List Ft} {e : Ev} {x : Ft} (h : Fits pm out) (hs : (getM pm [e.s, e.id]).isSome = true) (hx : out[((getM pm [e.s, e.id]).getD 0).toNat]? = some x) (ho : isOpen x = false) : cameF out e = some (out ++ [fresh e]) := by
  simp [cameF, (fits_at h hs).2.2.2, hx, ho]
theorem cameF_new {pm : List (List Int × Int)} {out : List Ft} {e : Ev} (h : Fits pm out) (hs : (getM pm [e.s, e.id]).isSome = false) : cameF out e = some (out ++ [fresh e]) := by
  simp [cameF, fits_no h hs]
theorem set_same {out : List Ft} {j : Nat} {x : Ft} (h : out[j]? = some x) : out.set j x = out := by
  apply List.ext_getElem?
  intro i
  rw [List.getElem?_set]
  by_cases hij : j = i
  · subst hij
    rw [h]
    simp [(List.getElem?_eq_some_iff.1 h).1]
  · simp [hij]
theorem fits_app' {pm : List (List Int × Int)} {out : List Ft} {x : Ft} {s id : Int} (h : Fits pm out) (h1 : x.s = s) (h2 : x.id = id) : Fits (setM pm [s, id] (out.length : Int)) (out ++ [x]) := by
  subst h1; subst h2; exact fits_app h
theorem step_came {out : List Ft} {e : Ev} (h : e.kind = 1) : step out e = cameF out e := by
  unfold step cameF
  split <;> simp [h]
theorem step_other {out : List Ft} {e : Ev} (h : e.kind ≠ 1) (hr : ruled e.kind = false) : step out e = some out := by
  unfold step
  split <;> simp [h, hr]
theorem step_unknown {pm : List (List Int × Int)} {out : List Ft} {e : Ev} {kd : Int} (hkd : e.kind = kd) (h : kd ≠ 1) (hr : ruled kd = true) (hf : Fits pm out) (hs : (getM pm [e.s, e.id]).isSome = false) : step out e = none := by
  simp [step, fits_no hf hs, hkd, h, hr]
theorem step_not {pm : List (List Int × Int)} {out : List Ft} {e : Ev} {x : Ft} {kd : Int} (hkd : e.kind = kd) (h : kd ≠ 1) (hr : ruled kd = true) (hf : Fits pm out) (hs : (getM pm [e.s, e.id]).isSome = true) (hx : out[((getM pm [e.s, e.id]).getD 0).toNat]? = some x)
    (hm : may kd x e = false) : step out e = none := by
  simp [step, (fits_at hf hs).2.2.2, hx, hkd, h, hr, hm]
theorem step_does {pm : List (List Int × Int)} {out : List Ft} {e : Ev} {x : Ft} {kd : Int} (hkd : e.kind = kd) (h : kd ≠ 1) (hr : ruled kd = true) (hf : Fits pm out) (hs : (getM pm [e.s, e.id]).isSome = true) (hx : out[((getM pm [e.s, e.id]).getD 0).toNat]? = some x)
    (hm : may kd x e = true) : step out e = some (out.set ((getM pm [e.s, e.id]).getD 0).toNat (does kd x e)) := by
  simp [step, (fits_at hf hs).2.2.2, hx, hkd, h, hr, hm]
theorem does_same {kd : Int} {x : Ft} {e : Ev} : (does kd x e).s = x.s ∧ (does kd x e).id = x.id := by
  unfold does
  repeat' split
  all_goals exact ⟨rfl, rfl⟩
theorem step_get {out o2 : List Ft} {e : Ev} (h : (step out e).isSome = true) (ho : o2 = (step out e).getD out) : step out e = some o2 := by
  cases hs : step out e with
  | none => rw [hs] at h; cases h
  | some o => rw [hs] at ho; simp [ho]
theorem step_gone {out : List Ft} {e : Ev} (h : (step out e).isSome = false) : step out e = none := by
  cases hs : step out e with
  | none => rfl
  | some o => rw [hs] at h; cases h
def lastZ (out : List Ft) (s id : Int) : Int := match lastI out s id with
  | some k => k
  | none => -1
theorem lastZ_lt {out : List Ft} {s id : Int} (h : 0 ≤ lastZ out s id) : lastZ out s id < out.length ∧ (lastZ out s id).toNat < out.length ∧ lastI out s id = some (lastZ out s id).toNat := by
  unfold lastZ at h ⊢
  cases hl : lastI out s id with
  | none => rw [hl] at h; simp at h
  | some j => have := (lastI_some hl).1; simp; omega
theorem lastZ_no {out : List Ft} {s id : Int} (h : ¬ 0 ≤ lastZ out s id) : lastI out s id = none := by
  unfold lastZ at h
  cases hl : lastI out s id with
  | none => rfl
  | some j => rw [hl] at h; simp at h
theorem last_bind {out : List Ft} {s id : Int} {x : Ft} (h : 0 ≤ lastZ out s id) (hx : out[(lastZ out s id).toNat]? = some x) : (lastI out s id).bind (out[·]?) = some x := by
  rw [(lastZ_lt h).2.2]; exact hx
def opened (l : List Ft) : List Ft := l.filter isOpen
theorem last_prev {l : List Ft} {j s id : Int} {x : Ft} (hj : 0 ≤ j) (hno : ∀ (i : Nat) (y : Ft), j < i → l[i]? = some y → ¬ (y.s = s ∧ y.id = id)) (hx : l[j.toNat]? = some x) (hn : ¬ (x.s = s ∧ x.id = id)) :
    ∀ (i : Nat) (y : Ft), j - 1 < i → l[i]? = some y → ¬ (y.s = s ∧ y.id = id) := fun i y h1 h2 => by
  by_cases hij : (i : Int) = j
  · have : i = j.toNat := by omega
    subst this; rw [hx] at h2; cases h2; exact hn
  · exact hno i y (by omega) h2
theorem lastZ_at {l : List Ft} {j s id : Int} {x : Ft} (hj : 0 ≤ j) (hx : l[j.toNat]? = some x) (h1 : x.s = s) (h2 : x.id = id) (hno : ∀ (i : Nat) (y : Ft), j < i → l[i]? = some y → ¬ (y.s = s ∧ y.id = id)) : lastZ l s id = j := by
  unfold lastZ
  rw [lastI_at hx h1 h2 (fun i y h => hno i y (by omega))]
  simp; omega
theorem lastZ_none {l : List Ft} {s id : Int} (hno : ∀ (i : Nat) (y : Ft), l[i]? = some y → ¬ (y.s = s ∧ y.id = id)) : lastZ l s id = -1 := by
  unfold lastZ; rw [lastI_no hno]
theorem step_some {out : List Ft} {e : Ev} {x : Ft} (h : 0 ≤ lastZ out e.s e.id) (hx : out[(lastZ out e.s e.id).toNat]? = some x) :
    step out e = if e.kind = 1 then (if isOpen x then none else some (out ++ [fresh e])) else if ruled e.kind then (if may e.kind x e then some (out.set (lastZ out e.s e.id).toNat (does e.kind x e)) else none) else some out := by
  unfold step
  rw [last_bind h hx, (lastZ_lt h).2.2]; rfl
theorem step_none {out : List Ft} {e : Ev} (h : ¬ 0 ≤ lastZ out e.s e.id) : step out e = if e.kind = 1 then some (out ++ [fresh e]) else if ruled e.kind then none else some out := by
  unfold step
  rw [lastZ_no h]; rfl
theorem step_work {out : List Ft} {e : Ev} {x : Ft} (h : 0 ≤ lastZ out e.s e.id) (hx : out[(lastZ out e.s e.id).toNat]? = some x) (hk : e.kind = 5 ∨ e.kind = 6) (hs : x.state = 3) : step out e = some out := by
  rw [step_some h hx]
  rcases hk with hk | hk <;> simp [hk, ruled, may, does, hs, set_same hx]
theorem isOpen_or {x : Ft} : isOpen x = (decide (x.state = 1) || decide (x.state = 2) || decide (x.state = 3)) := by
  unfold isOpen
  by_cases h1 : x.state = 1
  · simp [h1]
  · by_cases h2 : x.state = 2
    · simp [h2]
    · by_cases h3 : x.state = 3
      · simp [h3]
      · simp [h1, h2, h3]; omega
def last (l : List Ft) (s id : Int) : Ft × Bool := match (lastI l s id).bind (l[·]?) with
  | some x => (x, true)
  | none => (⟨0, 0, 0, 0, 0, 0, 0, 0⟩, false)
end Ld
end Go.LK

namespace Go.LK
open Go
namespace Ld
end Ld
end Go.LK

namespace Go.LK
def Ft.of (g : Nat → Int) : Ft := ⟨g 0, g 1, g 2, g 3, g 4, g 5, g 6, g 7⟩
theorem Ft.of_cells (g : Nat → Int) : Ft.cells (Ft.of g) = (List.range 8).map fun j => Value.int .i64 (g j) := rfl
end Go.LK
namespace Go.LK.Ld
open Go Go.LK

end Go.LK.Ld
