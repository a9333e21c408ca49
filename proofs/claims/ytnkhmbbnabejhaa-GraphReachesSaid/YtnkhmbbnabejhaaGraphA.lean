/-
  Several texts in one: Graph1, Graph2, Graph3, Graph4.
-/
import Derived.Test.YtnkhmbbnabejhaaLk34
import Derived.Test.YtnkhmbbnabejhaaGraph0
import Derived.Test.YtnkhmbbnabejhaaJob1
import Derived.Test.YtnkhmbbnabejhaaWait0
namespace Go.LK
open Go Go.RowKit
/-- A service, of which just its calls are known: the value of its slice of calls, and whom they call. -/
structure Sg where
  cv : Value
  cl : List Int
  ok : cv.oneCell' = true
def encT (t : Int) : List Value := [.int .i64 t, .int .i64 0, .int .i64 0, .int .i64 0]
theorem encT.one {l : List Int} : ∀ a ∈ l, (encT a).all Value.oneCell' = true := fun _ _ => rfl
def Sg.cells (s : Sg) : List Value := [.int .i64 0, .int .i64 0, .int .i64 0, .int .i64 0, .int .i64 0, .int .i64 0, .int .i64 0, .int .i64 0, .int .i64 0, .int .i64 0, .int .i64 0, .int .i64 0, .int .i64 0, s.cv]
theorem Sg.one {l : List Sg} : ∀ a ∈ l, (Sg.cells a).all Value.oneCell' = true := fun a _ => by
  simp only [Sg.cells, List.all_cons, List.all_nil, a.ok]; rfl
def Sg.row (T : Nat) (s : Sg) : Sp := LK.row s.cv T 4 (s.cl.map encT)
def Sg.rd (s : Sg) : Sp := LK.rd s.cv 4 (s.cl.map encT)
theorem sg_ros {T : Nat} {l : List Sg} : ∀ w, (bun (l.map (Sg.row T))).holds w → (ros (l.map Sg.rd)).holds w ∧ ∀ k ∈ (ros (l.map Sg.rd)).foot, k ∈ (bun (l.map (Sg.row T))).foot := bun_ros fun _ _ => row_rd
/-- A row of numbers, named by its value. -/
structure Lz where
  v : Value
  l : List Int
def Lz.cells (x : Lz) : List Value := [x.v]
def Lz.rd (x : Lz) : Sp := LK.rd x.v 1 (x.l.map encZ)
abbrev gOf (l : List Sg) : List (List Int) := l.map Sg.cl
theorem gOf_len {l : List Sg} : (gOf l).length = l.length := List.length_map _
theorem gOf_at {l : List Sg} {i : Nat} {s : Sg} (h : l[i]? = some s) : (gOf l)[i]? = some s.cl := by unfold gOf; rw [List.getElem?_map, h]; rfl
end Go.LK
namespace Go.LK.Gr
open Go Go.LK
section
variable {g : List (List Int)} {cl : List Int} {f x t : Int} {i j k q n p : Nat} {o : List Nat}
/-! ### Whom one calls -/
def calledF (n : Nat) (o : List Int) (t : Int) : List Int := if 0 ≤ t ∧ t < (n : Int) ∧ t ∉ o then o ++ [t] else o
def calledK (n : Nat) (cl : List Int) (k : Nat) : List Int := (cl.take k).foldl (calledF n) []
def called (g : List (List Int)) (f : Int) : List Int := if f < 0 ∨ (g.length : Int) ≤ f then [] else (g.getD f.toNat []).foldl (calledF g.length) []
theorem called_out (h : f < 0 ∨ (g.length : Int) ≤ f) : called g f = [] := if_pos h
theorem called_in (h0 : ¬ f < 0) (h1 : ¬ (g.length : Int) ≤ f) (hx : g[f.toNat]? = some cl) (hk : ¬ k < cl.length) : calledK g.length cl k = called g f := by
  unfold called calledK
  rw [if_neg (by omega), List.take_of_length_le (by omega), List.getD_eq_getElem?_getD, hx]; rfl
theorem calledK_yes (hx : cl[k]? = some t) (h0 : 0 ≤ t) (h1 : t < (n : Int)) (h2 : t ∉ calledK n cl k) : calledK n cl (k + 1) = calledK n cl k ++ [t] := by
  unfold calledK at h2 ⊢
  rw [List.take_add_one, hx, List.foldl_append]
  exact if_pos ⟨h0, h1, h2⟩
theorem calledK_no (hx : cl[k]? = some t) (h : ¬ (0 ≤ t ∧ t < (n : Int) ∧ t ∉ calledK n cl k)) : calledK n cl (k + 1) = calledK n cl k := by
  unfold calledK at h ⊢
  rw [List.take_add_one, hx, List.foldl_append]
  exact if_neg h
theorem mem_fold : ∀ {cl o : List Int}, x ∈ cl.foldl (calledF n) o ↔ x ∈ o ∨ (x ∈ cl ∧ 0 ≤ x ∧ x < (n : Int))
  | [], o => by simp
  | t :: cl, o => by
    rw [List.foldl_cons, mem_fold]
    unfold calledF
    by_cases h : 0 ≤ t ∧ t < (n : Int) ∧ t ∉ o
    · rw [if_pos h, List.mem_append, List.mem_singleton, List.mem_cons]
      constructor
      · rintro ((h1 | h1) | h1)
        · exact .inl h1
        · subst h1; exact .inr ⟨.inl rfl, h.1, h.2.1⟩
        · exact .inr ⟨.inr h1.1, h1.2⟩
      · rintro (h1 | ⟨h1 | h1, h2⟩)
        · exact .inl (.inl h1)
        · exact .inl (.inr h1)
        · exact .inr ⟨h1, h2⟩
    · rw [if_neg h, List.mem_cons]
      constructor
      · rintro (h1 | h1)
        · exact .inl h1
        · exact .inr ⟨.inr h1.1, h1.2⟩
      · rintro (h1 | ⟨h1 | h1, h2⟩)
        · exact .inl h1
        · subst h1
          exact .inl (Classical.byContradiction fun hn => h ⟨h2.1, h2.2, hn⟩)
        · exact .inr ⟨h1, h2⟩
theorem nodup_fold : ∀ {cl o : List Int}, o.Nodup → (cl.foldl (calledF n) o).Nodup
  | [], _, h => h
  | t :: cl, o, h => by
    rw [List.foldl_cons]
    refine nodup_fold ?_
    unfold calledF
    split
    · rename_i hc
      exact List.nodup_append.2 ⟨h, by simp, fun a ha b hb => by simp at hb; subst hb; exact fun e => hc.2.2 (e ▸ ha)⟩
    · exact h
theorem mem_called : x ∈ called g f ↔ ∃ i j : Nat, f = i ∧ x = j ∧ e g i j = true := by
  unfold called
  by_cases h : f < 0 ∨ (g.length : Int) ≤ f
  · rw [if_pos h]
    constructor
    · intro hx; simp at hx
    · rintro ⟨i, j, rfl, _, he⟩
      have := (e_lt he).1
      omega
  · rw [if_neg h, mem_fold]
    simp only [List.not_mem_nil, false_or]
    constructor
    · rintro ⟨h1, h2, h3⟩
      refine ⟨f.toNat, x.toNat, by omega, by omega, ?_⟩
      unfold e
      simp only [Bool.and_eq_true, decide_eq_true_eq, List.contains_eq_mem]
      exact ⟨⟨by omega, by omega⟩, by rw [show ((x.toNat : Nat) : Int) = x from by omega]; exact h1⟩
    · rintro ⟨i, j, rfl, rfl, he⟩
      have hl := e_lt he
      unfold e at he
      simp only [Bool.and_eq_true, decide_eq_true_eq, List.contains_eq_mem] at he
      exact ⟨by simpa using he.2, by omega, by omega⟩
theorem mem_called_nat : (j : Int) ∈ called g (i : Int) ↔ e g i j = true := by
  rw [mem_called]
  constructor
  · rintro ⟨a, b, h1, h2, h3⟩
    have ha : a = i := by omega
    have hb : b = j := by omega
    rw [← ha, ← hb]; exact h3
  · exact fun h => ⟨i, j, rfl, rfl, h⟩
theorem called_nodup : (called g f).Nodup := by
  unfold called; split
  · simp
  · exact nodup_fold (by simp)
theorem called_bnd (h : (called g f)[q]? = some t) : ∃ j : Nat, t = j ∧ j < g.length := by
  obtain ⟨i, j, _, h2, h3⟩ := mem_called.1 (List.mem_of_getElem? h)
  exact ⟨j, h2, (e_lt h3).2⟩
theorem called_len : (called g f).length ≤ g.length := by
  have := nodup_len (ks := called g f) (l := (List.range g.length).map fun (n : Nat) => (n : Int)) called_nodup fun k hk => by
    obtain ⟨i, j, _, rfl, h⟩ := mem_called.1 hk
    exact List.mem_map.2 ⟨j, List.mem_range.2 (e_lt h).2, rfl⟩
  simpa using this
/-- Does one call another one? -/
def calls (g : List (List Int)) (a b : Int) : Bool := decide (0 ≤ a) && decide (a < (g.length : Int)) && decide (0 ≤ b) && decide (b < (g.length : Int)) && (g.getD a.toNat []).contains b
theorem calls_e : calls g (i : Int) (j : Int) = e g i j := by
  unfold calls e
  rw [Bool.eq_iff_iff]
  simp only [Bool.and_eq_true, decide_eq_true_eq, Int.toNat_natCast]
  constructor
  · rintro ⟨⟨⟨⟨_, h1⟩, _⟩, h2⟩, h3⟩
    exact ⟨⟨by omega, by omega⟩, h3⟩
  · rintro ⟨⟨h1, h2⟩, h3⟩
    exact ⟨⟨⟨⟨by omega, by omega⟩, by omega⟩, by omega⟩, h3⟩
theorem calls_called {a b : Int} : calls g a b = decide (b ∈ called g a) := by
  rw [Bool.eq_iff_iff, decide_eq_true_eq, mem_called]
  constructor
  · intro h
    unfold calls at h
    simp only [Bool.and_eq_true, decide_eq_true_eq] at h
    refine ⟨a.toNat, b.toNat, by omega, by omega, ?_⟩
    rw [← calls_e, show ((a.toNat : Nat) : Int) = a from by omega, show ((b.toNat : Nat) : Int) = b from by omega]
    unfold calls
    simp only [Bool.and_eq_true, decide_eq_true_eq]
    exact h
  · rintro ⟨i, j, rfl, rfl, h⟩
    rw [calls_e]; exact h
theorem calls_no {a b : Int} (h : a < 0 ∨ (g.length : Int) ≤ a ∨ b < 0 ∨ (g.length : Int) ≤ b) : calls g a b = false := by
  rw [Bool.eq_false_iff]
  intro hc
  unfold calls at hc
  simp only [Bool.and_eq_true, decide_eq_true_eq] at hc
  omega
theorem calls_in {a b : Int} (h : ¬ (a < 0 ∨ (g.length : Int) ≤ a ∨ b < 0 ∨ (g.length : Int) ≤ b)) (hx : g[a.toNat]? = some cl) : calls g a b = decide (b ∈ cl) := by
  unfold calls
  rw [Bool.eq_iff_iff]
  simp only [Bool.and_eq_true, decide_eq_true_eq, List.contains_eq_mem, List.getD_eq_getElem?_getD, hx, Option.getD_some]
  constructor
  · exact fun h => h.2
  · exact fun h' => ⟨by omega, h'⟩
/-- Who calls one. -/
def callersK (g : List (List Int)) (b : Int) (k : Nat) : List Int := ((List.range k).filter fun (i : Nat) => calls g (i : Int) b).map fun (n : Nat) => (n : Int)
def callers (g : List (List Int)) (b : Int) : List Int := callersK g b g.length
theorem callersK_yes {b : Int} (h : calls g (k : Int) b = true) : callersK g b (k + 1) = callersK g b k ++ [(k : Int)] := by
  unfold callersK; rw [List.range_succ, List.filter_append]; simp [h]
theorem callersK_no {b : Int} (h : calls g (k : Int) b = false) : callersK g b (k + 1) = callersK g b k := by
  unfold callersK; rw [List.range_succ, List.filter_append]; simp [h]
theorem callersK_len {b : Int} : (callersK g b k).length ≤ k := by
  unfold callersK; rw [List.length_map]; exact Nat.le_trans (List.length_filter_le _ _) (by simp)
theorem mem_callers {b : Int} : x ∈ callers g b ↔ ∃ i : Nat, x = i ∧ calls g (i : Int) b = true := by
  unfold callers callersK
  rw [List.mem_map]
  constructor
  · rintro ⟨i, hi, rfl⟩; exact ⟨i, rfl, (List.mem_filter.1 hi).2⟩
  · rintro ⟨i, rfl, h⟩
    refine ⟨i, List.mem_filter.2 ⟨List.mem_range.2 ?_, h⟩, rfl⟩
    unfold calls at h
    simp only [Bool.and_eq_true, decide_eq_true_eq] at h
    omega
/-! ### Rows by their places -/
def rowN (n : Nat) (F : Nat → Int) : List Int := (List.range n).map F
theorem rowN_len {F : Nat → Int} : (rowN n F).length = n := by simp [rowN]
theorem rowN_get {F : Nat → Int} (h : j < n) : (rowN n F)[j]? = some (F j) := by simp [rowN, h]
theorem rowN_ext {F G : Nat → Int} (h : ∀ j, j < n → F j = G j) : rowN n F = rowN n G := List.map_congr_left fun j hj => h j (List.mem_range.1 hj)
theorem rowN_set {F : Nat → Int} : (rowN n F).set j x = rowN n fun i => if i = j then x else F i := by
  apply List.ext_getElem?
  intro i
  rw [List.getElem?_set]
  unfold rowN
  simp only [List.getElem?_map, List.length_map, List.length_range]
  by_cases hi : i < n
  · by_cases hj : j = i
    · subst hj; simp [hi]
    · have : ¬ i = j := fun e => hj e.symm
      simp [hj, hi, this]
  · by_cases hj : j = i
    · subst hj; simp [hi]
    · simp [hj, hi]
/-! ### How many callers -/
def cw (g : List (List Int)) (i j : Nat) : Nat := ((List.range i).filter fun c => e g c j).length
def waitQ (g : List (List Int)) (i q : Nat) : List Int := rowN g.length fun j => (cw g i j : Int) + if (j : Int) ∈ (called g (i : Int)).take q then 1 else 0
theorem cw_succ : cw g (i + 1) j = cw g i j + if e g i j then 1 else 0 := by
  unfold cw; rw [List.range_succ, List.filter_append, List.length_append]
  cases h : e g i j <;> simp [h]
theorem waitQ_zero : List.replicate g.length 0 = waitQ g 0 0 := by
  refine (List.eq_replicate_iff.2 ⟨by simp [waitQ, rowN], fun b hb => ?_⟩).symm
  unfold waitQ rowN at hb
  obtain ⟨j, _, rfl⟩ := List.mem_map.1 hb
  simp [cw]
end
end Go.LK.Gr

namespace Go.LK.Gr
open Go Go.LK
section
variable {g : List (List Int)} {t x : Int} {i j k q n p m : Nat} {o : List Nat}
theorem take_next {l : List Int} (hn : l.Nodup) (hq : l[q]? = some t) : t ∉ l.take q ∧ ∀ y, y ∈ l.take (q + 1) ↔ y ∈ l.take q ∨ y = t := by
  constructor
  · intro h
    obtain ⟨i, hi⟩ := List.mem_iff_getElem?.1 h
    rw [List.getElem?_take] at hi
    split at hi
    · rename_i hlt
      have h1 := (List.getElem?_eq_some_iff.1 hi)
      have h2 := (List.getElem?_eq_some_iff.1 hq)
      obtain ⟨a, ha⟩ := h1
      obtain ⟨b, hb⟩ := h2
      have := List.pairwise_iff_getElem.1 hn i q a b hlt
      exact this (ha.trans hb.symm)
    · cases hi
  · intro y
    rw [List.take_add_one, hq, List.mem_append]; simp
theorem waitQ_next (hq : (called g (i : Int))[q]? = some t) (hx : (waitQ g i q)[t.toNat]? = some x) : (waitQ g i q).set t.toNat (x + 1) = waitQ g i (q + 1) := by
  obtain ⟨j, rfl, hj⟩ := called_bnd hq
  rw [Int.toNat_natCast] at hx ⊢
  obtain ⟨h1, h2⟩ := take_next called_nodup hq
  unfold waitQ at hx ⊢
  rw [rowN_get hj] at hx
  rw [rowN_set]
  refine rowN_ext fun i' _ => ?_
  by_cases he : i' = j
  · subst he
    rw [if_pos rfl, ← Option.some.inj hx, if_neg h1, if_pos ((h2 _).2 (.inr rfl))]; omega
  · rw [if_neg he]
    have hne : ¬ (i' : Int) = j := by omega
    have : (i' : Int) ∈ (called g (i : Int)).take (q + 1) ↔ (i' : Int) ∈ (called g (i : Int)).take q := by rw [h2]; simp [hne]
    simp only [this]
theorem waitQ_row (h : (called g (i : Int)).length ≤ q) : waitQ g i q = waitQ g (i + 1) 0 := by
  unfold waitQ
  refine rowN_ext fun j _ => ?_
  rw [List.take_of_length_le h, cw_succ]
  simp only [mem_called_nat, List.take_zero, List.not_mem_nil, if_false]
  split <;> simp_all
def leftL (g : List (List Int)) (o : List Nat) : List Int := rowN g.length fun j => if j ∈ o then -1 else (cnt g o j : Int)
theorem waitQ_all : waitQ g g.length 0 = leftL g [] := by
  unfold waitQ leftL
  refine rowN_ext fun j _ => ?_
  simp only [List.take_zero, List.not_mem_nil, if_false, cw, cnt]
  simp
theorem cw_le : cw g i j ≤ i := by unfold cw; exact Nat.le_trans (List.length_filter_le _ _) (by simp)
theorem cnt_le : cnt g o j ≤ g.length := by unfold cnt; exact Nat.le_trans (List.length_filter_le _ _) (by simp)
theorem waitQ_len : (waitQ g i q).length = g.length := rowN_len
theorem leftL_len : (leftL g o).length = g.length := rowN_len
theorem waitQ_bnd (hx : (waitQ g i q)[m]? = some x) : 0 ≤ x ∧ x ≤ i + 1 := by
  have hm : m < g.length := by have := (List.getElem?_eq_some_iff.1 hx).1; rwa [waitQ_len] at this
  unfold waitQ at hx
  rw [rowN_get hm] at hx
  have := cw_le (g := g) (i := i) (j := m)
  have h2 := Option.some.inj hx
  split at h2 <;> omega
def leftQ (g : List (List Int)) (o : List Nat) (p q : Nat) : List Int := rowN g.length fun j => if j ∈ o ++ [p] then -1 else (cnt g o j : Int) - if (j : Int) ∈ (called g (p : Int)).take q then 1 else 0
theorem leftQ_len : (leftQ g o p q).length = g.length := rowN_len
theorem leftQ_bnd (hx : (leftQ g o p q)[m]? = some x) : -1 ≤ x ∧ x ≤ g.length := by
  have hm : m < g.length := by have := (List.getElem?_eq_some_iff.1 hx).1; rwa [leftQ_len] at this
  unfold leftQ at hx
  rw [rowN_get hm] at hx
  have := cnt_le (g := g) (o := o) (j := m)
  have h2 := Option.some.inj hx
  split at h2
  · omega
  · split at h2 <;> omega
theorem leftQ_zero : (leftL g o).set p (-1) = leftQ g o p 0 := by
  unfold leftL leftQ
  rw [rowN_set]
  refine rowN_ext fun j _ => ?_
  by_cases h : j = p
  · simp [h]
  · by_cases h2 : j ∈ o <;> simp [h, h2]
theorem leftQ_next (ho : ordN g k = some o) (hp : pick g o = some p) (hq : (called g (p : Int))[q]? = some t) (hx : (leftQ g o p q)[t.toNat]? = some x) : (leftQ g o p q).set t.toNat (x - 1) = leftQ g o p (q + 1) := by
  obtain ⟨a, j, ha, hj1, he⟩ := mem_called.1 (List.mem_of_getElem? hq)
  have hap : a = p := by omega
  subst hap hj1
  have hj := (e_lt he).2
  rw [Int.toNat_natCast] at hx ⊢
  obtain ⟨h1, h2⟩ := take_next called_nodup hq
  obtain ⟨hp1, hp2, hp3⟩ := pick_some hp
  have hjo : j ∉ o ++ [a] := by
    intro hin
    rcases List.mem_append.1 hin with hin | hin
    · exact hp2 (ord_closed ho j hin a he)
    · simp at hin; subst hin
      exact hp2 (hp3 _ he)
  unfold leftQ at hx ⊢
  rw [rowN_get hj, if_neg hjo, if_neg h1] at hx
  rw [rowN_set]
  refine rowN_ext fun i' _ => ?_
  by_cases hee : i' = j
  · subst hee
    rw [if_pos rfl, ← Option.some.inj hx, if_neg hjo, if_pos ((h2 _).2 (.inr rfl))]; omega
  · rw [if_neg hee]
    have hne : ¬ (i' : Int) = j := by omega
    have : (i' : Int) ∈ (called g (a : Int)).take (q + 1) ↔ (i' : Int) ∈ (called g (a : Int)).take q := by rw [h2]; simp [hne]
    simp only [this]
theorem count_one {f : Nat → Bool} : ∀ {l : List Nat}, l.Nodup → p ∈ l → (l.filter f).length = (l.filter fun c => f c && !(c == p)).length + if f p then 1 else 0
  | [], _, h => by simp at h
  | c :: l, hn, h => by
    have hn' := List.nodup_cons.1 hn
    by_cases hc : c = p
    · subst hc
      have : l.filter (fun d => f d && !(d == c)) = l.filter f := List.filter_congr fun d hd => by
        have : ¬ d = c := fun e => hn'.1 (e ▸ hd)
        simp [this]
      rw [List.filter_cons, List.filter_cons, this]
      cases hf : f c <;> simp
    · have hm : p ∈ l := by
        rcases List.mem_cons.1 h with h | h
        · exact absurd h.symm hc
        · exact h
      have ih := count_one (f := f) hn'.2 hm
      rw [List.filter_cons, List.filter_cons]
      cases hf : f c
      · simpa [hf] using ih
      · simp only [if_true, hf, hc, beq_iff_eq, Bool.true_and, Bool.not_eq_true', List.length_cons]
        have hb : (c == p) = false := by simpa using hc
        rw [hb]
        simp only [if_true, List.length_cons]
        omega
theorem cnt_next (hp : p < g.length) (ho : p ∉ o) : cnt g o j = cnt g (o ++ [p]) j + if e g p j then 1 else 0 := by
  unfold cnt
  rw [count_one (p := p) List.nodup_range (List.mem_range.2 hp)]
  have : (fun c => (e g c j && !o.contains c) && !(c == p)) = fun c => e g c j && !(o ++ [p]).contains c := by
    funext c
    by_cases hc : c = p <;> simp [hc]
  rw [this]
  simp [ho]
theorem leftQ_end (hp : pick g o = some p) (h : (called g (p : Int)).length ≤ q) : leftQ g o p q = leftL g (o ++ [p]) := by
  obtain ⟨hp1, hp2, _⟩ := pick_some hp
  unfold leftQ leftL
  refine rowN_ext fun j _ => ?_
  rw [List.take_of_length_le h]
  have := cnt_next (j := j) hp1 hp2
  simp only [mem_called_nat]
  split
  · rfl
  · split <;> simp_all <;> omega
theorem idx_none {kx : Int} (h : Jb.IdxP (leftL g o) 0 kx) (hk : kx < 0) : pick g o = none := by
  rcases h with ⟨_, h⟩ | ⟨n, rfl, _⟩
  · refine pick_stop fun j hj => ?_
    by_cases hjo : j ∈ o
    · exact .inl hjo
    · refine .inr fun hc => h ?_
      refine List.mem_of_getElem? (i := j) ?_
      unfold leftL
      rw [rowN_get hj, if_neg hjo, hc]; rfl
  · omega
theorem idx_some {kx : Int} (h : Jb.IdxP (leftL g o) 0 kx) (hk : ¬ kx < 0) : ∃ p : Nat, kx = p ∧ pick g o = some p := by
  rcases h with ⟨rfl, _⟩ | ⟨n, rfl, h1, h2⟩
  · omega
  · have hn : n < g.length := by have := (List.getElem?_eq_some_iff.1 h1).1; rwa [leftL_len] at this
    refine ⟨n, rfl, pick_at hn ?_ ?_ fun j hj => ?_⟩
    · intro hin
      unfold leftL at h1
      rw [rowN_get hn, if_pos hin] at h1; simp at h1
    · unfold leftL at h1
      rw [rowN_get hn] at h1
      split at h1 <;> simp at h1
      omega
    · by_cases hjo : j ∈ o
      · exact .inl hjo
      · refine .inr fun hc => ?_
        refine h2 j hj _ (show (leftL g o)[j]? = some ((cnt g o j : Int)) from ?_) (by rw [hc]; rfl)
        unfold leftL
        rw [rowN_get (by omega), if_neg hjo]
/-! ### The row -/
def ordL (g : List (List Int)) : List Int := ((ordN g g.length).getD []).map fun (n : Nat) => (n : Int)
theorem ordL_yes (h : ordN g g.length = some o) : ordL g = o.map fun (n : Nat) => (n : Int) := by unfold ordL; rw [h]; rfl
theorem ordL_no (h : ordN g g.length = none) : ordL g = [] := by unfold ordL; rw [h]; rfl
theorem ord_more (ho : ordN g k = some o) (hp : pick g o = some p) : ordN g (k + 1) = some (o ++ [p]) := by simp [ordN, ho, hp]
theorem ord_stop (ho : ordN g k = some o) (hp : pick g o = none) (hk : k < g.length) : ordN g g.length = none := ord_none (k := k + 1) (by simp [ordN, ho, hp]) _ (by omega)
theorem ordL_len : (ordL g).length ≤ g.length := by
  unfold ordL
  cases h : ordN g g.length with
  | none => simp
  | some o => simp [ord_len h]
/-! ### The document's way -/
def good (g : List (List Int)) (o : List Nat) (n : Nat) : Bool := !o.contains n && cnt g o n == 0
def nextK (g : List (List Int)) (o : List Nat) (k : Nat) : Int := ((((List.range g.length).drop k).find? (good g o)).map fun (n : Nat) => (n : Int)).getD (-1)
theorem range_drop (h : k < n) : (List.range n).drop k = k :: (List.range n).drop (k + 1) := by
  rw [List.drop_eq_getElem_cons (by simpa using h)]; simp
theorem nextK_end : nextK g o g.length = -1 := by unfold nextK; rw [List.drop_eq_nil_of_le (by simp)]; rfl
theorem nextK_yes (hk : k < g.length) (h : good g o k = true) : nextK g o k = k := by unfold nextK; rw [range_drop hk, List.find?_cons, h]; rfl
theorem nextK_no (hk : k < g.length) (h : good g o k = false) : nextK g o k = nextK g o (k + 1) := by unfold nextK; rw [range_drop hk, List.find?_cons, h]
theorem nextK_pick (h : pick g o = some p) : nextK g o 0 = p := by
  unfold nextK
  have : (List.range g.length).find? (good g o) = pick g o := rfl
  rw [List.drop_zero, this, h]; rfl
def freeB (g : List (List Int)) (row : List Int) (b : Int) : Bool := (callers g b).all fun c => decide (c ∈ row)
theorem in_cast : (k : Int) ∈ o.map (fun (n : Nat) => (n : Int)) ↔ k ∈ o := by
  rw [List.mem_map]
  constructor
  · rintro ⟨a, ha, h⟩
    have : a = k := by omega
    exact this ▸ ha
  · exact fun h => ⟨k, h, rfl⟩
theorem good_is : good g o k = (!decide ((k : Int) ∈ o.map fun (n : Nat) => (n : Int)) && freeB g (o.map fun (n : Nat) => (n : Int)) (k : Int)) := by
  unfold good freeB
  rw [Bool.eq_iff_iff]
  simp only [Bool.and_eq_true, Bool.not_eq_true', List.contains_eq_mem, decide_eq_false_iff_not, beq_iff_eq, cnt_zero, List.all_eq_true, decide_eq_true_eq, in_cast]
  constructor
  · rintro ⟨h1, h2⟩
    refine ⟨h1, fun c hc => ?_⟩
    obtain ⟨i, rfl, hi⟩ := mem_callers.1 hc
    rw [calls_e] at hi
    exact in_cast.2 (h2 i hi)
  · rintro ⟨h1, h2⟩
    refine ⟨h1, fun c hc => in_cast.1 (h2 c (mem_callers.2 ⟨c, rfl, by rw [calls_e]; exact hc⟩))⟩
theorem all_take {l row : List Int} {c : Int} (h : ((l.take k).all fun c => decide (c ∈ row)) = true) (hc : l[k]? = some c) (hr : c ∈ row) : ((l.take (k + 1)).all fun c => decide (c ∈ row)) = true := by
  rw [List.take_add_one, hc, List.all_append, h]; simp [hr]
theorem all_not {l row : List Int} {c : Int} (hc : l[k]? = some c) (hr : c ∉ row) : (l.all fun c => decide (c ∈ row)) = false := by
  rw [Bool.eq_false_iff]
  intro h
  exact hr (of_decide_eq_true (List.all_eq_true.1 h c (List.mem_of_getElem? hc)))
theorem callers_len {b : Int} : (callers g b).length ≤ g.length := callersK_len
theorem reachL_len : (reachL g i).length ≤ g.length := by
  unfold reachL; rw [List.length_map]; exact Nat.le_trans (List.length_filter_le _ _) (by simp)
theorem marked_len {mk : List Bool} : (marked mk k).length ≤ k := by
  unfold marked; rw [List.length_map]; exact Nat.le_trans (List.length_filter_le _ _) (by simp)
theorem reach_self : (i : Int) ∈ reachL g i ↔ Path (e g) i i := by
  rw [mem_reachL]
  constructor
  · rintro ⟨j, h, hp⟩
    have : j = i := by omega
    exact this ▸ hp
  · exact fun h => ⟨i, rfl, h⟩
theorem loops_ord (h : ¬ loops g ≠ 0) : ∃ o, ordN g g.length = some o := by
  cases ho : ordN g g.length with
  | none => exact absurd (loops_no ho) (by omega)
  | some o => exact ⟨o, rfl⟩
theorem loops_none_ord (h : loops g ≠ 0) : ordN g g.length = none := by
  cases ho : ordN g g.length with
  | none => rfl
  | some o => exact absurd (loops_yes ho) h
theorem loops_11 (h : loops g ≠ 0) : loops g = 11 := loops_no (loops_none_ord h)
theorem ord_pick (h : ordN g g.length = some o) {o' : List Nat} (ho : ordN g k = some o') (hk : k < g.length) : ∃ p, pick g o' = some p := by
  cases hp : pick g o' with
  | none => rw [ord_stop ho hp hk] at h; cases h
  | some p => exact ⟨p, rfl⟩
end
end Go.LK.Gr

namespace Go.LK.Gr
open Go Go.LK
section
variable {g : List (List Int)} {i j k q n p m : Nat} {o S S' : List Nat} {F : Nat → Int} {b b' t x y : Int}
/-! ### How deep -/
structure MaxOf (F : Nat → Int) (S : List Nat) (b : Int) : Prop where
  low : 0 ≤ b
  all : ∀ j ∈ S, F j + 1 ≤ b
  one : b = 0 ∨ ∃ j ∈ S, b = F j + 1
theorem MaxOf.nil : MaxOf F [] 0 := ⟨Int.le_refl _, by simp, .inl rfl⟩
theorem MaxOf.next (h : MaxOf F S b) (hS : ∀ x, x ∈ S' ↔ x ∈ S ∨ x = j) : MaxOf F S' (if F j + 1 > b then F j + 1 else b) := by
  have h1 := h.low
  refine ⟨by split <;> omega, fun i hi => ?_, ?_⟩
  · rcases (hS i).1 hi with h2 | h2
    · have := h.all i h2; split <;> omega
    · subst h2; split <;> omega
  · split
    · exact .inr ⟨j, (hS j).2 (.inr rfl), rfl⟩
    · rcases h.one with h2 | ⟨i, h2, h3⟩
      · exact .inl h2
      · exact .inr ⟨i, (hS i).2 (.inl h2), h3⟩
theorem MaxOf.eq (h : MaxOf F S b) (h' : MaxOf F S' b') (hF : ∀ j, 0 ≤ F j) (hS : ∀ x, x ∈ S ↔ x ∈ S') : b = b' := by
  have key : ∀ {S S' : List Nat} {b b' : Int}, MaxOf F S b → MaxOf F S' b' → (∀ x, x ∈ S ↔ x ∈ S') → b ≤ b' := by
    intro S S' b b' h h' hS
    have := h'.low
    rcases h.one with h1 | ⟨j, h1, h2⟩
    · omega
    · have := h'.all j ((hS j).1 h1); omega
  exact Int.le_antisymm (key h h' hS) (key h' h fun x => (hS x).symm)
theorem MaxOf.congr {F' : Nat → Int} (h : MaxOf F S b) (hF : ∀ j ∈ S, F j = F' j) : MaxOf F' S b := ⟨h.low, fun j hj => by rw [← hF j hj]; exact h.all j hj, by
  rcases h.one with h1 | ⟨j, h1, h2⟩
  · exact .inl h1
  · exact .inr ⟨j, h1, by rw [← hF j h1]; exact h2⟩⟩
def succs (g : List (List Int)) (n : Nat) : List Nat := (List.range g.length).filter (e g n)
theorem mem_succs : j ∈ succs g n ↔ e g n j = true := by
  unfold succs; rw [List.mem_filter, List.mem_range]
  exact ⟨fun h => h.2, fun h => ⟨(e_lt h).2, h⟩⟩
def maxF (F : Nat → Int) (S : List Nat) : Int := S.foldl (fun b j => if F j + 1 > b then F j + 1 else b) 0
theorem maxF_is : MaxOf F S (maxF F S) := by
  have : ∀ (S T : List Nat) (b : Int), MaxOf F T b → MaxOf F (T ++ S) (S.foldl (fun b j => if F j + 1 > b then F j + 1 else b) b) := by
    intro S
    induction S with
    | nil => intro T b h; simpa using h
    | cons j S ih =>
      intro T b h
      rw [List.foldl_cons]
      have h1 := ih (T ++ [j]) _ (h.next (S' := T ++ [j]) (j := j) (by simp))
      simpa using h1
  simpa [maxF] using this S [] 0 MaxOf.nil
def depF (g : List (List Int)) : Nat → Nat → Int
  | 0, _ => 0
  | k + 1, n => maxF (depF g k) (succs g n)
def dep (g : List (List Int)) (n : Nat) : Int := depF g g.length n
theorem depF_low : ∀ k n, 0 ≤ depF g k n
  | 0, _ => Int.le_refl _
  | _ + 1, _ => maxF_is.low
theorem depF_le : ∀ k n, depF g k n ≤ k
  | 0, _ => Int.le_refl _
  | k + 1, n => by
    rcases (maxF_is (F := depF g k) (S := succs g n)).one with h | ⟨j, _, h⟩
    · show maxF _ _ ≤ _; omega
    · have := depF_le k j; show maxF _ _ ≤ _; omega
noncomputable def dsc (g : List (List Int)) (n : Nat) : Nat := ((List.range g.length).filter fun j => reachP g n j).length
theorem dsc_lt (hc : ∀ i, ¬ Path (e g) i i) (h : e g n j = true) : dsc g j < dsc g n := by
  unfold dsc
  refine filter_lt (y := j) (fun i hi => reachP_iff.2 (.cons h (reachP_iff.1 hi))) (List.mem_range.2 (e_lt h).2) ?_ (reachP_iff.2 (.one h))
  cases hb : reachP g j j with
  | false => rfl
  | true => exact absurd (reachP_iff.1 hb) (hc j)
theorem dsc_le : dsc g n ≤ g.length := by unfold dsc; exact Nat.le_trans (List.length_filter_le _ _) (by simp)
theorem depF_more (hc : ∀ i, ¬ Path (e g) i i) : ∀ k n, dsc g n ≤ k → depF g (k + 1) n = depF g k n
  | 0, n, h => by
    have : succs g n = [] := List.eq_nil_iff_forall_not_mem.2 fun j hj => by
      have := dsc_lt hc (mem_succs.1 hj); omega
    show maxF _ _ = 0
    rw [this]; rfl
  | k + 1, n, h => by
    show maxF (depF g (k + 1)) (succs g n) = maxF (depF g k) (succs g n)
    refine (maxF_is (F := depF g (k + 1)) (S := succs g n)).congr (F' := depF g k) (fun j hj => ?_) |>.eq maxF_is (depF_low k) (fun _ => Iff.rfl)
    exact depF_more hc k j (by have := dsc_lt hc (mem_succs.1 hj); omega)
theorem dep_low : 0 ≤ dep g n := depF_low _ _
theorem dep_le : dep g n ≤ g.length := depF_le _ _
/-- It is one more than the deepest of those whom one calls. -/
theorem dep_max (hc : ∀ i, ¬ Path (e g) i i) : MaxOf (dep g) (succs g n) (dep g n) := by
  have : dep g n = maxF (dep g) (succs g n) := (depF_more hc g.length n dsc_le).symm
  rw [this]; exact maxF_is
theorem dep_is (hc : ∀ i, ¬ Path (e g) i i) (h : MaxOf (dep g) S b) (hS : ∀ x, x ∈ S ↔ e g n x = true) : b = dep g n :=
  h.eq (dep_max hc) (fun _ => dep_low) fun x => by rw [hS, mem_succs]
theorem dep_lt (hc : ∀ i, ¬ Path (e g) i i) (h : e g n j = true) : dep g j < dep g n := by
  have := (dep_max (n := n) hc).all j (mem_succs.2 h); omega
/-- The document's way, with the first k. -/
def firstS (g : List (List Int)) (n k : Nat) : List Nat := (List.range k).filter (e g n)
theorem first_yes (h : MaxOf (dep g) (firstS g n k) b) (he : e g n k = true) : MaxOf (dep g) (firstS g n (k + 1)) (if 1 + dep g k > b then 1 + dep g k else b) := by
  have h1 := h.next (S' := firstS g n (k + 1)) (j := k) fun x => by
    unfold firstS; rw [List.range_succ, List.filter_append, List.mem_append]
    simp [he]
  rwa [Int.add_comm] at h1
theorem first_no (h : MaxOf (dep g) (firstS g n k) b) (he : e g n k = false) : MaxOf (dep g) (firstS g n (k + 1)) b := by
  have : firstS g n (k + 1) = firstS g n k := by
    unfold firstS; rw [List.range_succ, List.filter_append]; simp [he]
  rw [this]; exact h
theorem first_all (hc : ∀ i, ¬ Path (e g) i i) (h : MaxOf (dep g) (firstS g n g.length) b) : b = dep g n := dep_is hc h fun _ => mem_succs
/-! ### From behind -/
/-- What there is behind those of a row. -/
def deepL (g : List (List Int)) (S : List Nat) : List Int := rowN g.length fun j => if j ∈ S then dep g j else 0
theorem deepL_len : (deepL g S).length = g.length := rowN_len
theorem deepL_nil : List.replicate g.length 0 = deepL g [] := by
  refine (List.eq_replicate_iff.2 ⟨by simp [deepL, rowN], fun b hb => ?_⟩).symm
  unfold deepL rowN at hb
  obtain ⟨j, _, rfl⟩ := List.mem_map.1 hb
  simp
/-- The same, with what is known of the next one. -/
def deepQ (g : List (List Int)) (S : List Nat) (p : Nat) (b : Int) : List Int := rowN g.length fun j => if j = p then b else if j ∈ S then dep g j else 0
theorem deepQ_len : (deepQ g S p b).length = g.length := rowN_len
theorem deepQ_zero (h : p ∉ S) : deepL g S = deepQ g S p 0 := rowN_ext fun j _ => by
  by_cases hj : j = p
  · subst hj; simp [h]
  · simp [hj]
theorem deepQ_set : (deepQ g S p b).set p b' = deepQ g S p b' := by
  unfold deepQ
  rw [rowN_set]
  exact rowN_ext fun j _ => by by_cases hj : j = p <;> simp [hj]
theorem deepQ_own (hp : p < g.length) : (deepQ g S p b)[p]? = some b := by unfold deepQ; rw [rowN_get hp]; simp
theorem deepQ_at (hj : j < g.length) (hne : j ≠ p) (hS : j ∈ S) : (deepQ g S p b)[j]? = some (dep g j) := by unfold deepQ; rw [rowN_get hj]; simp [hne, hS]
theorem deepQ_end (hS : ∀ x, x ∈ S' ↔ x ∈ S ∨ x = p) : deepQ g S p (dep g p) = deepL g S' := rowN_ext fun j _ => by
  by_cases hj : j = p
  · subst hj; simp [hS]
  · simp [hj, hS]
/-- Those whom one calls, as far as they are done with. -/
def nats (l : List Int) : List Nat := l.map Int.toNat
theorem mem_nats_called : j ∈ nats (called g (p : Int)) ↔ e g p j = true := by
  unfold nats
  rw [List.mem_map]
  constructor
  · rintro ⟨x, hx, rfl⟩
    obtain ⟨a, b, ha, rfl, he⟩ := mem_called.1 hx
    have : a = p := by omega
    subst this
    simpa using he
  · exact fun h => ⟨j, mem_called_nat.2 h, by simp⟩
theorem nats_next {l : List Int} (h : l[q]? = some t) : ∀ x, x ∈ nats (l.take (q + 1)) ↔ x ∈ nats (l.take q) ∨ x = t.toNat := fun x => by
  unfold nats; rw [List.take_add_one, h, List.map_append, List.mem_append]; simp
/-- What stands behind one in the row are those whom it calls. -/
theorem ord_behind (ho : ordN g n = some o) (hp : o[k]? = some p) (h : e g p j = true) (hj : j ∈ o) : ∃ a, k < a ∧ o[a]? = some j := by
  obtain ⟨a, ha⟩ := List.mem_iff_getElem?.1 hj
  refine ⟨a, ?_, ha⟩
  rcases Nat.lt_or_ge k a with h1 | h1
  · exact h1
  · exfalso
    have hn := ord_len ho
    have hk : k < n := by have := (List.getElem?_eq_some_iff.1 hp).1; omega
    -- the row up to j's place and one more is a row itself
    have key : ∀ (m : Nat), m ≤ n → ordN g m = some (o.take m) := by
      intro m hm
      have : ∀ d, d ≤ n → ordN g (n - d) = some (o.take (n - d)) := by
        intro d
        induction d with
        | zero => intro _; rw [Nat.sub_zero, List.take_of_length_le (by omega)]; exact ho
        | succ d ih =>
          intro hd
          have h2 := ih (by omega)
          have h3 : n - d = (n - (d + 1)) + 1 := by omega
          rw [h3] at h2
          obtain ⟨o', x, h4, _, h5⟩ := ord_step h2
          rw [h4]
          have h6 := ord_len h4
          have h7 : o' = (o.take ((n - (d + 1)) + 1)).take (n - (d + 1)) := by rw [h5, List.take_left' h6]
          rw [h7, List.take_take]
          congr 2
          omega
      have := this (n - m) (by omega)
      rwa [show n - (n - m) = m from by omega] at this
    have h2 := key (a + 1) (by have := (List.getElem?_eq_some_iff.1 ha).1; omega)
    have h3 := ord_closed h2 j (List.mem_of_getElem? (i := a) (by rw [List.getElem?_take, if_pos (by omega)]; exact ha)) p h
    have hnd := ord_nodup h2
    have hpa : (o.take (a + 1)) = o.take a ++ [j] := by rw [List.take_add_one, ha]; rfl
    obtain ⟨o', x, h4, h5, h6⟩ := ord_step (k := a) (by rw [h2])
    have hx : x = j ∧ o' = o.take a := by
      rw [hpa] at h6
      have := List.append_inj' h6.symm (by simp)
      exact ⟨by simpa using this.2, this.1⟩
    obtain ⟨rfl, rfl⟩ := hx
    have h7 := (pick_some h5).2.2 p h
    obtain ⟨c, hc⟩ := List.mem_iff_getElem?.1 h7
    rw [List.getElem?_take] at hc
    split at hc
    · rename_i hlt
      have hno := ord_nodup ho
      obtain ⟨d1, e1⟩ := List.getElem?_eq_some_iff.1 hc
      obtain ⟨d2, e2⟩ := List.getElem?_eq_some_iff.1 hp
      have := List.pairwise_iff_getElem.1 hno c k d1 d2 (by omega)
      exact this (e1.trans e2.symm)
    · cases hc
/-! ### Marks -/
def Ones (m : List (Int × Int)) : Prop := ∀ k v, getI m k = some v → v = 1
def pathI (g : List (List Int)) (n x : Int) : Prop := ∃ i j : Nat, n = i ∧ x = j ∧ Path (e g) i j
/-- What has been done of one, as far as the first q of those whom it calls. -/
structure Dfs (g : List (List Int)) (n : Int) (m m' : List (Int × Int)) (q : Nat) : Prop where
  ones : Ones m'
  sub : ∀ x, x ∈ keysI m → x ∈ keysI m'
  sound : ∀ x, x ∈ keysI m' → x ∈ keysI m ∨ pathI g n x
  succ : ∀ x, x ∈ (called g n).take q → x ∈ keysI m'
  closed : ∀ x, x ∈ keysI m' → x ∉ keysI m → ∀ y, y ∈ called g x → y ∈ keysI m'
def un (g : List (List Int)) (m : List (Int × Int)) : Nat := ((List.range g.length).filter fun (j : Nat) => !decide ((j : Int) ∈ keysI m)).length
theorem Ones.put {m : List (Int × Int)} (h : Ones m) : Ones (putI m t 1) := fun k v hv => by
  rw [getI_putI] at hv
  split at hv
  · cases hv; rfl
  · exact h k v hv
theorem Ones.zero {m : List (Int × Int)} (h : Ones m) : (getI m t).getD 0 = 0 ↔ t ∉ keysI m := by
  rw [← getI_none]
  cases hv : getI m t with
  | none => simp
  | some v => have := h t v hv; subst this; simp
theorem Dfs.begin {m : List (Int × Int)} {n : Int} (h : Ones m) : Dfs g n m m 0 := ⟨h, fun _ h => h, fun _ h => .inl h, fun x hx => by simp at hx, fun x hx hn => absurd hx hn⟩
theorem path_step {n : Int} (h : x ∈ called g n) : pathI g n x := by
  obtain ⟨i, j, h1, h2, h3⟩ := mem_called.1 h
  exact ⟨i, j, h1, h2, .one h3⟩
theorem path_cons {n : Int} (h : x ∈ called g n) (hp : pathI g x y) : pathI g n y := by
  obtain ⟨i, j, rfl, rfl, h3⟩ := mem_called.1 h
  obtain ⟨a, b, ha, rfl, hp⟩ := hp
  have : j = a := by omega
  subst this
  exact ⟨i, b, rfl, rfl, .cons h3 hp⟩
theorem Dfs.skip {m m1 : List (Int × Int)} {n : Int} (h : Dfs g n m m1 q) (hq : (called g n)[q]? = some t) (ht : t ∈ keysI m1) : Dfs g n m m1 (q + 1) := ⟨h.ones, h.sub, h.sound, fun x hx => by
  rcases ((take_next called_nodup hq).2 x).1 hx with h1 | h1
  · exact h.succ x h1
  · subst h1; exact ht, h.closed⟩
theorem Dfs.visit {m m1 m3 : List (Int × Int)} {n : Int} (h : Dfs g n m m1 q) (hq : (called g n)[q]? = some t) (ht : t ∉ keysI m1) (h' : Dfs g t (putI m1 t 1) m3 (called g t).length) : Dfs g n m m3 (q + 1) := by
  have hc := List.mem_of_getElem? hq
  have h0 : ∀ x, x ∈ keysI m1 → x ∈ keysI m3 := fun x hx => h'.sub x (Wt.mem_keys_put.2 (.inr hx))
  have ht3 : t ∈ keysI m3 := h'.sub t (Wt.mem_keys_put.2 (.inl rfl))
  refine ⟨h'.ones, fun x hx => h0 x (h.sub x hx), fun x hx => ?_, fun x hx => ?_, fun x hx hn y hy => ?_⟩
  · rcases h'.sound x hx with h1 | h1
    · rcases Wt.mem_keys_put.1 h1 with h2 | h2
      · subst h2; exact .inr (path_step hc)
      · exact h.sound x h2
    · exact .inr (path_cons hc h1)
  · rcases ((take_next called_nodup hq).2 x).1 hx with h1 | h1
    · exact h0 x (h.succ x h1)
    · subst h1; exact ht3
  · by_cases hx2 : x ∈ keysI (putI m1 t 1)
    · rcases Wt.mem_keys_put.1 hx2 with h2 | h2
      · subst h2; exact h'.succ y (by rw [List.take_length]; exact hy)
      · exact h0 y (h.closed x h2 hn y hy)
    · exact h'.closed x hx hx2 y hy
theorem un_lt {m1 : List (Int × Int)} {n : Int} (hq : (called g n)[q]? = some t) (ht : t ∉ keysI m1) {m : List (Int × Int)} (hs : ∀ x, x ∈ keysI m → x ∈ keysI m1) : un g (putI m1 t 1) < un g m := by
  obtain ⟨j, rfl, hj⟩ := called_bnd hq
  unfold un
  refine filter_lt (y := j) (fun i hi => ?_) (List.mem_range.2 hj) ?_ ?_
  · simp only [Bool.not_eq_true', decide_eq_false_iff_not] at hi ⊢
    exact fun h => hi (Wt.mem_keys_put.2 (.inr (hs _ h)))
  · have : (j : Int) ∈ keysI (putI m1 (j : Int) 1) := Wt.mem_keys_put.2 (.inl rfl)
    simp [this]
  · have : (j : Int) ∉ keysI m := fun h => ht (hs _ h)
    simp [this]
noncomputable def reachI (g : List (List Int)) (n : Int) : List Int := if 0 ≤ n ∧ n < (g.length : Int) then reachL g n.toNat else []
theorem reachI_nat (h : i < g.length) : reachI g (i : Int) = reachL g i := by unfold reachI; rw [if_pos (by omega)]; simp
theorem reachI_out {n : Int} (h : n < 0 ∨ (g.length : Int) ≤ n) : reachI g n = [] := if_neg (by omega)
theorem mem_reachI {n : Int} : x ∈ reachI g n ↔ pathI g n x := by
  unfold reachI
  split
  · rename_i h
    rw [mem_reachL]
    constructor
    · rintro ⟨j, rfl, hp⟩; exact ⟨n.toNat, j, by omega, rfl, hp⟩
    · rintro ⟨i, j, h1, h2, hp⟩
      refine ⟨j, h2, ?_⟩
      have : n.toNat = i := by omega
      rw [this]; exact hp
  · rename_i h
    constructor
    · intro hx; simp at hx
    · rintro ⟨i, j, rfl, _, hp⟩
      have := (path_lt hp).1
      omega
theorem Dfs.all {m : List (Int × Int)} {n : Int} (h : Dfs g n [] m (called g n).length) : Jb.rising (keysI m) = reachI g n := by
  refine Jb.up_ext (Jb.rising_up _) ?_ fun x => ?_
  · unfold reachI; split
    · exact reachL_up
    · simp
  · rw [Jb.mem_rising, mem_reachI]
    constructor
    · intro hx
      rcases h.sound x hx with h1 | h1
      · simp [keysI] at h1
      · exact h1
    · rintro ⟨i, j, rfl, rfl, hp⟩
      induction hp with
      | one he => exact h.succ _ (by rw [List.take_length]; exact mem_called_nat.2 he)
      | step _ he ih => exact h.closed _ (ih) (by simp [keysI]) _ (mem_called_nat.2 he)
theorem reachI_len {n : Int} : (reachI g n).length ≤ g.length := by
  unfold reachI; split
  · exact reachL_len
  · simp
end
end Go.LK.Gr

namespace Go.LK.Gr
open Go Go.LK
section
variable {g : List (List Int)} {i j k q n p m : Nat} {o S S' : List Nat} {b b' t x x1 x2 y : Int} {d d2 : List Int}
theorem dfs_len {mm : List (Int × Int)} {f : Int} (h : Dfs g f [] mm (called g f).length) (hn : (keysI mm).Nodup) : mm.length ≤ g.length := by
  have := nodup_len (l := (List.range g.length).map fun (n : Nat) => (n : Int)) hn fun x hx => by
    rcases h.sound x hx with h1 | ⟨i, j, _, rfl, hp⟩
    · simp [keysI] at h1
    · exact List.mem_map.2 ⟨j, List.mem_range.2 (path_lt hp).2, rfl⟩
  simpa [keysI] using this
noncomputable def depI (g : List (List Int)) (f : Int) : Int × Int := if f < 0 ∨ (g.length : Int) ≤ f then (0, 7) else if loops g = 0 then (dep g f.toNat, 0) else (0, loops g)
theorem depI_out {f : Int} (h : f < 0 ∨ (g.length : Int) ≤ f) : depI g f = (0, 7) := if_pos h
theorem depI_loops {f : Int} (h : ¬ (f < 0 ∨ (g.length : Int) ≤ f)) (hl : loops g ≠ 0) : depI g f = (0, loops g) := by rw [depI, if_neg h, if_neg hl]
theorem depI_in {f : Int} (h : ¬ (f < 0 ∨ (g.length : Int) ≤ f)) (hl : loops g = 0) : depI g f = (dep g f.toNat, 0) := by rw [depI, if_neg h, if_pos hl]
theorem no_round (ho : ordN g g.length = some o) : ∀ i, ¬ Path (e g) i i := fun i hp => ord_iff.1 ⟨o, ho⟩ i (path_lt hp).1 hp
theorem ordL_length (ho : ordN g g.length = some o) : (ordL g).length = o.length := by rw [ordL_yes ho, List.length_map]
theorem ord_at (ho : ordN g g.length = some o) (he : (ordL g).reverse[m]? = some x) : ∃ p : Nat, x = (p : Int) ∧ m < o.length ∧ o[o.length - 1 - m]? = some p ∧ p < g.length ∧ p ∉ o.drop (o.length - m) := by
  have hl := ordL_length ho
  have hm : m < o.length := by
    have := (List.getElem?_eq_some_iff.1 he).1
    rw [List.length_reverse, hl] at this; exact this
  rw [List.getElem?_reverse (by rw [hl]; exact hm), hl, ordL_yes ho, List.getElem?_map] at he
  cases hp : o[o.length - 1 - m]? with
  | none => rw [hp] at he; cases he
  | some p =>
    rw [hp] at he
    refine ⟨p, by cases he; rfl, hm, rfl, ord_lt ho p (List.mem_of_getElem? hp), fun hi => ?_⟩
    obtain ⟨a, ha⟩ := List.mem_iff_getElem?.1 hi
    rw [List.getElem?_drop] at ha
    have hnd := ord_nodup ho
    obtain ⟨d1, e1⟩ := List.getElem?_eq_some_iff.1 hp
    obtain ⟨d2, e2⟩ := List.getElem?_eq_some_iff.1 ha
    have := List.pairwise_iff_getElem.1 hnd _ _ d1 d2 (by omega)
    exact this (e1.trans e2.symm)
theorem deep_step (ho : ordN g g.length = some o) (hm : m < o.length) (hp : o[o.length - 1 - m]? = some p) (ht : (called g (p : Int))[q]? = some t) (hx : MaxOf (dep g) (nats ((called g (p : Int)).take q)) b) (hd : d2 = deepQ g (o.drop (o.length - m)) p b)
    (h1 : d2[p]? = some x1) (h2 : d2[t.toNat]? = some x2) :
    MaxOf (dep g) (nats ((called g (p : Int)).take (q + 1))) (if x2 + 1 > x1 then x2 + 1 else x1) ∧ d2.set p (if x2 + 1 > x1 then x2 + 1 else x1) = deepQ g (o.drop (o.length - m)) p (if x2 + 1 > x1 then x2 + 1 else x1) ∧ 0 ≤ x2 ∧ x2 ≤ g.length := by
  subst hd
  have hc := no_round ho
  obtain ⟨j, rfl, hj⟩ := called_bnd ht
  have hpl := ord_lt ho p (List.mem_of_getElem? hp)
  rw [deepQ_own hpl] at h1
  have he : e g p j = true := mem_called_nat.1 (List.mem_of_getElem? ht)
  have hne : j ≠ p := fun h => by subst h; exact hc _ (.one he)
  have hjS : j ∈ o.drop (o.length - m) := by
    obtain ⟨a, ha, hja⟩ := ord_behind ho hp he (ord_all ho j hj)
    refine List.mem_iff_getElem?.2 ⟨a - (o.length - m), ?_⟩
    rw [List.getElem?_drop, show o.length - m + (a - (o.length - m)) = a from by omega]; exact hja
  have hjt : ((j : Int)).toNat = j := by simp
  rw [hjt, deepQ_at hj hne hjS] at h2
  cases h1; cases h2
  refine ⟨?_, deepQ_set, dep_low, dep_le⟩
  exact hx.next fun x => by rw [nats_next ht x, hjt]
theorem deep_zero {p : Nat} (hp : p ∉ o.drop (o.length - m)) (hd : d = deepL g (o.drop (o.length - m))) : d = deepQ g (o.drop (o.length - m)) p 0 := hd.trans (deepQ_zero hp)
theorem deep_end (ho : ordN g g.length = some o) (hm : m < o.length) (hp : o[o.length - 1 - m]? = some p) (hx : MaxOf (dep g) (nats ((called g (p : Int)).take q)) b) (hq : ¬ (q : Int) < ((called g (p : Int)).length : Int)) (hd : d2 = deepQ g (o.drop (o.length - m)) p b) : d2 = deepL g (o.drop (o.length - (m + 1))) := by
  rw [List.take_of_length_le (by omega)] at hx
  have hb : b = dep g p := dep_is (no_round ho) hx fun x => mem_nats_called
  rw [hd, hb]
  refine deepQ_end fun x => ?_
  have : o.drop (o.length - (m + 1)) = p :: o.drop (o.length - m) := by
    rw [show o.length - (m + 1) = o.length - 1 - m from by omega, List.drop_eq_getElem_cons (by omega)]
    congr 1
    · have := (List.getElem?_eq_some_iff.1 hp).2; exact this
    · congr 1; omega
  rw [this, List.mem_cons]
  exact ⟨fun h => h.symm, fun h => h.symm⟩
theorem deep_begin : List.replicate g.length 0 = deepL g (o.drop (o.length - 0)) := by rw [Nat.sub_zero, List.drop_length]; exact deepL_nil
theorem deep_at {f : Int} (ho : ordN g g.length = some o) (hd : d = deepL g (o.drop (o.length - o.length))) (hx : d[f.toNat]? = some x) : x = dep g f.toNat := by
  subst hd
  have hl := (List.getElem?_eq_some_iff.1 hx).1
  rw [deepL_len] at hl
  rw [Nat.sub_self, List.drop_zero] at hx
  unfold deepL at hx
  rw [rowN_get hl, if_pos (ord_all ho _ hl)] at hx
  exact (Option.some.inj hx).symm
theorem deepQ_length : (deepQ g S p b).length = g.length := deepQ_len
end
end Go.LK.Gr
