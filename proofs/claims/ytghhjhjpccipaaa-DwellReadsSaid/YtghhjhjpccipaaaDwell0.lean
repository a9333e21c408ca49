/-
  Moves, windows: what the functions of the layer dwell and of its reference compute, as plain functions on lists; and that both answer alike.
-/
import Derived.Test.YtghhjhjpccipaaaLk8
import Derived.Test.YtghhjhjpccipaaaMono0
namespace Go.LK
open Go

structure Mv where
  at_ : Int
  way : Int
  tier : Int
def Mv.cells (e : Mv) : List Value := [.int .i64 e.at_, .int .i64 e.way, .int .i64 e.tier]
theorem Mv.one {l : List Mv} : ∀ a ∈ l, (Mv.cells a).all Value.oneCell' = true := fun _ _ => rfl
structure Wd where
  no : Int
  th : Int
  ti : Int
def Wd.cells (e : Wd) : List Value := [.int .i64 e.no, .int .i64 e.th, .int .i64 e.ti]
structure Kp where
  way : Int
  frm : Int
  dim : Int
  at_ : Int
def Kp.cells (e : Kp) : List Value := [.int .i64 e.way, .int .i64 e.frm, .int .i64 e.dim, .int .i64 e.at_]
structure Win where
  at_ : Int
  no : Int
  was : Int
  is_ : Int
  off : Int
  on : Int
  first : Bool
def Win.cells (e : Win) : List Value := [.int .i64 e.at_, .int .i64 e.no, .int .i64 e.was, .int .i64 e.is_, .int .i64 e.off, .int .i64 e.on, .bool e.first]
theorem Win.one {l : List Win} : ∀ a ∈ l, (Win.cells a).all Value.oneCell' = true := fun _ _ => rfl
structure Kn where
  low : Int
  high : Int
  cut : Int
  lift : Int
  floor : Int
  turn : Int
  dwell : Int
def Kn.cells (e : Kn) : List Value := [.int .i64 e.low, .int .i64 e.high, .int .i64 e.cut, .int .i64 e.lift, .int .i64 e.floor, .int .i64 e.turn, .int .i64 e.dwell]

namespace Dw
def cmp (x y : Int) : Int := if x < y then -1 else if y < x then 1 else 0
def moved (k : Int) (was now : Wd) : Mv := ⟨k, cmp now.th was.th, IntKind.i64.wrap (now.ti - was.ti)⟩
def soon (k : Kp) (m : Mv) (no : Int) (x : Kn) : Bool :=
  (decide (m.way ≠ 0) && decide (k.way ≠ 0) && decide (m.way ≠ k.way)) && decide (IntKind.i64.wrap (no - k.frm) < x.turn) || (decide (m.tier ≠ 0) && decide (0 < k.dim)) && decide (IntKind.i64.wrap (no - k.at_) < x.dwell)
def note (k : Kp) (m : Mv) (no : Int) : Kp :=
  let k1 : Kp := if m.way ≠ 0 ∧ m.way ≠ k.way then ⟨m.way, no, k.dim, k.at_⟩ else k
  if m.tier ≠ 0 then ⟨k1.way, k1.frm, 1, no⟩ else k1
def overF {σ : Type} (s lv ti : Int) (close : σ → Int → Wd → Wd → σ) (anew : σ → σ) (x : Wd × σ) (k : Nat) (e : Ev) : Wd × σ :=
  if e.s ≠ s then x else if e.kind = 11 then (⟨x.1.no, lv, ti⟩, anew x.2) else if e.kind = 9 then (⟨x.1.no + 1, e.a, e.b⟩, close x.2 k x.1 ⟨x.1.no + 1, e.a, e.b⟩) else x
def over {σ : Type} (s lv ti : Int) (close : σ → Int → Wd → Wd → σ) (anew : σ → σ) (z : σ) (l : List Ev) : σ := (upI (overF s lv ti close anew) (⟨0, lv, ti⟩, z) l l.length).2
def mvC (out : List Mv) (k : Int) (was now : Wd) : List Mv := if (moved k was now).way ≠ 0 ∨ (moved k was now).tier ≠ 0 then out ++ [moved k was now] else out
def moves (s lv ti : Int) (l : List Ev) : List Mv := over s lv ti mvC (fun out => out) [] l
def wnC (n : Int) (_ : Int) (_ _ : Wd) : Int := n + 1
def windows (s : Int) (l : List Ev) : Int := over s 0 0 wnC (fun _ => 0) 0 l
structure Ws where
  fst : Mv
  held : Kp
  found : Bool
def wrC (x : Kn) (z : Ws) (k : Int) (was now : Wd) : Ws :=
  ⟨if !z.found && soon z.held (moved k was now) now.no x then moved k was now else z.fst, note z.held (moved k was now) now.no, z.found || soon z.held (moved k was now) now.no x⟩
def kp0 : Kp := ⟨0, 0, 0, 0⟩
def mv0 : Mv := ⟨0, 0, 0⟩
def wrA (z : Ws) : Ws := ⟨z.fst, kp0, z.found⟩
def ws (s lv ti : Int) (x : Kn) (l : List Ev) : Ws := over s lv ti (wrC x) wrA ⟨mv0, kp0, false⟩ l
def calmF (n : Int) (_ : Nat) (e : Ev) : Int := if e.kind = 9 ∧ e.code = 2 then n + 1 else if e.kind = 9 ∨ e.kind = 11 ∨ e.kind = 10 then 0 else n
def calm (s : Int) (l : List Ev) : Int := upI calmF 0 (Mono.of s l) (Mono.of s l).length
def calmG (s : Int) (n : Int) (i : Nat) (e : Ev) : Int := if decide (e.s = s) = true then calmF n i e else n
theorem calm_eq (s : Int) (l : List Ev) : calm s l = upI (calmG s) 0 l l.length := by
  unfold calm Mono.of
  rw [Mono.upI_foldl (fun _ _ _ _ => rfl), Mono.upI_foldl (fun _ _ _ _ => rfl), List.take_length, List.take_length, List.foldl_filter]
  rfl

/-! ### The reference -/
structure Rs where
  wd : Wd
  first : Bool
  out : List Win
def winsF (s lv ti : Int) (x : Rs) (k : Nat) (e : Ev) : Rs :=
  if e.s ≠ s then x else if e.kind = 11 then ⟨⟨x.wd.no, lv, ti⟩, true, x.out⟩ else if e.kind = 9 then ⟨⟨x.wd.no + 1, e.a, e.b⟩, false, x.out ++ [⟨k, x.wd.no + 1, x.wd.th, e.a, x.wd.ti, e.b, x.first⟩]⟩ else x
def winsU (s lv ti : Int) (l : List Ev) (k : Nat) : Rs := upI (winsF s lv ti) ⟨⟨0, lv, ti⟩, true, []⟩ l k
def wins (s lv ti : Int) (l : List Ev) : List Win := (winsU s lv ti l l.length).out
def way (w : Win) : Int := if w.was < w.is_ then 1 else if w.is_ < w.was then -1 else 0
def mv (w : Win) : Mv := ⟨w.at_, way w, IntKind.i64.wrap (w.on - w.off)⟩
def mvO (w : Win) : Option Mv := if (mv w).way ≠ 0 ∨ (mv w).tier ≠ 0 then some (mv w) else none
def movesR (W : List Win) : List Mv := W.filterMap mvO
def rN (st : Int × Int × Int) (i : Nat) (w : Win) : Int × Int × Int :=
  (if way w ≠ 0 ∧ way w ≠ st.1 then way w else st.1, if way w ≠ 0 ∧ way w ≠ st.1 then (i : Int) else st.2.1, if w.on ≠ w.off then (i : Int) else st.2.2)
def rB (W : List Win) : Nat → Int × Int × Int
  | 0 => (0, -1, -1)
  | n + 1 => match W[n + 1]?, W[n]? with
    | some w', some w => if w'.first then (0, -1, -1) else rN (rB W n) n w
    | _, _ => (0, -1, -1)
def soonW (st : Int × Int × Int) (w : Win) (n : Nat) (x : Kn) : Bool :=
  (decide (way w ≠ 0) && decide (st.1 ≠ 0) && decide (way w ≠ st.1)) && decide (IntKind.i64.wrap (n - st.2.1) < x.turn) || (decide (w.on ≠ w.off) && decide (0 ≤ st.2.2)) && decide (IntKind.i64.wrap (n - st.2.2) < x.dwell)
def soonR (W : List Win) (x : Kn) (n : Nat) : Bool := match W[n]? with
  | some w => soonW (rB W n) w n x
  | none => false
def wrongR (W : List Win) (x : Kn) : Mv × Bool := match (List.range W.length).find? (soonR W x) with
  | some n => match W[n]? with
    | some w => (mv w, true)
    | none => (mv0, false)
  | none => (mv0, false)
def winF (s : Int) (n : Int) (_ : Nat) (e : Ev) : Int := if e.s ≠ s then n else if e.kind = 11 then 0 else if e.kind = 9 then n + 1 else n
def windowsR (s : Int) (l : List Ev) : Int := upI (winF s) 0 l l.length

theorem rB_start {W : List Win} {n : Nat} (h : n = 0 ∨ ∃ w, W[n]? = some w ∧ w.first = true) : rB W n = (0, -1, -1) := by
  cases n with
  | zero => rfl
  | succ n =>
    obtain ⟨w, hw, hf⟩ := h.resolve_left (by omega)
    simp only [rB, hw]
    cases W[n]? <;> simp [hf]
theorem rB_next {W : List Win} {n : Nat} {w w' : Win} (h : W[n]? = some w) (h' : W[n + 1]? = some w') (hf : w'.first = false) : rB W (n + 1) = rN (rB W n) n w := by
  simp [rB, h, h', hf]
theorem rB_app {W : List Win} {w : Win} : ∀ {n : Nat}, n < W.length → rB (W ++ [w]) n = rB W n
  | 0, _ => rfl
  | n + 1, h => by
    have h1 : (W ++ [w])[n + 1]? = W[n + 1]? := List.getElem?_append_left h
    have h2 : (W ++ [w])[n]? = W[n]? := List.getElem?_append_left (by omega)
    have h3 : rB (W ++ [w]) n = rB W n := rB_app (by omega)
    simp only [rB, h1, h2, h3]
theorem soonR_app {W : List Win} {w : Win} {x : Kn} {n : Nat} (h : n < W.length) : soonR (W ++ [w]) x n = soonR W x n := by
  have h1 : (W ++ [w])[n]? = W[n]? := List.getElem?_append_left h
  simp only [soonR, h1, rB_app h]
theorem find_range_app {p q : Nat → Bool} {n : Nat} (h : ∀ i, i < n → p i = q i) : (List.range (n + 1)).find? p = match (List.range n).find? q with
    | some i => some i
    | none => if p n then some n else none := by
  have h1 : (List.range n).find? p = (List.range n).find? q := by
    have : ∀ l : List Nat, (∀ i ∈ l, p i = q i) → l.find? p = l.find? q := by
      intro l
      induction l with
      | nil => intro _; rfl
      | cons a l ih => intro hl; simp only [List.find?_cons, hl a (by simp), ih (fun i hi => hl i (by simp [hi]))]
    exact this _ fun i hi => h i (List.mem_range.1 hi)
  rw [List.range_succ, List.find?_append, h1]
  cases (List.range n).find? q with
  | some i => simp
  | none => by_cases hp : p n <;> simp [hp]
theorem wrongR_app {W : List Win} {w : Win} {x : Kn} : wrongR (W ++ [w]) x = if (wrongR W x).2 then wrongR W x else if soonR (W ++ [w]) x W.length then (mv w, true) else (mv0, false) := by
  have h := find_range_app (p := soonR (W ++ [w]) x) (q := soonR W x) (n := W.length) fun i hi => soonR_app hi
  unfold wrongR
  rw [List.length_append, List.length_singleton, h]
  cases hf : (List.range W.length).find? (soonR W x) with
  | some i =>
    have hi : i < W.length := List.mem_range.1 (List.mem_of_find?_eq_some hf)
    have h1 : (W ++ [w])[i]? = some W[i] := by rw [List.getElem?_append_left hi]; exact List.getElem?_eq_getElem hi
    have h2 : W[i]? = some W[i] := List.getElem?_eq_getElem hi
    simp [h1, h2]
  | none =>
    by_cases hs : soonR (W ++ [w]) x W.length <;> simp [hs]
theorem wrongR_at {W : List Win} {x : Kn} {k : Nat} {w : Win} (hn : ∀ j, j < k → soonR W x j = false) (hk : W[k]? = some w) (hs : soonR W x k = true) : wrongR W x = (mv w, true) := by
  have hlt : k < W.length := (List.getElem?_eq_some_iff.1 hk).1
  have : (List.range W.length).find? (soonR W x) = some k := find_at (k := k) (fun j y hj hy => by
    have : j = y := by have h2 := hy; rw [List.getElem?_range (by omega)] at h2; exact Option.some.inj h2
    subst this; exact hn j hj) (by rw [List.getElem?_range hlt]) hs
  simp [wrongR, this, hk]
theorem wrongR_no {W : List Win} {x : Kn} (hn : ∀ j, j < W.length → soonR W x j = false) : wrongR W x = (mv0, false) := by
  have : (List.range W.length).find? (soonR W x) = none := List.find?_eq_none.2 fun j hj => by simp [hn j (List.mem_range.1 hj)]
  simp [wrongR, this]
theorem soonR_at {W : List Win} {x : Kn} {n : Nat} {w : Win} (h : W[n]? = some w) : soonR W x n = soonW (rB W n) w n x := by simp [soonR, h]

/-! ### Both alike -/
theorem wrap_zero {x y : Int} (hx : -9223372036854775808 ≤ x ∧ x ≤ 9223372036854775807) (hy : -9223372036854775808 ≤ y ∧ y ≤ 9223372036854775807) : IntKind.i64.wrap (x - y) = 0 ↔ x = y := by
  constructor
  · intro h
    simp only [IntKind.wrap, IntKind.bits, IntKind.signed] at h
    simp at h
    omega
  · rintro rfl
    simp only [IntKind.wrap, IntKind.bits, IntKind.signed]
    simp
theorem way_moved {k : Int} {was now : Wd} {w : Win} (h1 : w.was = was.th) (h2 : w.is_ = now.th) : way w = (moved k was now).way := by
  simp only [way, moved, cmp, h1, h2]
  repeat' split
  all_goals first | rfl | omega

structure Rel (h : Kp) (st : Int × Int × Int) : Prop where
  way : h.way = st.1
  frm : st.1 ≠ 0 → h.frm = st.2.1 + 1
  dim : 0 < h.dim ↔ 0 ≤ st.2.2
  at_ : 0 ≤ st.2.2 → h.at_ = st.2.2 + 1

theorem rel_soon {h : Kp} {st : Int × Int × Int} (r : Rel h st) {w : Win} {m : Mv} {n : Nat} {x : Kn} (h1 : way w = m.way) (h2 : w.on ≠ w.off ↔ m.tier ≠ 0) : soonW st w n x = soon h m (n + 1) x := by
  have e1 : decide (w.on ≠ w.off) = decide (m.tier ≠ 0) := by simp only [h2]
  have e2 : decide (0 < h.dim) = decide (0 ≤ st.2.2) := by simp only [r.dim]
  simp only [soonW, Dw.soon, h1, r.way, e1, e2]
  have e3 : st.1 ≠ 0 → (n : Int) + 1 - h.frm = n - st.2.1 := fun h => by rw [r.frm h]; omega
  have e4 : 0 ≤ st.2.2 → (n : Int) + 1 - h.at_ = n - st.2.2 := fun h => by rw [r.at_ h]; omega
  by_cases h3 : st.1 ≠ 0 <;> by_cases h4 : 0 ≤ st.2.2
  · rw [e3 h3, e4 h4]
  · rw [e3 h3]; simp [h4]
  · rw [e4 h4]; simp at h3; simp [h3]
  · simp at h3; simp [h3, h4]
theorem rel_note {h : Kp} {st : Int × Int × Int} (r : Rel h st) {w : Win} {m : Mv} {n : Nat} (h1 : way w = m.way) (h2 : w.on ≠ w.off ↔ m.tier ≠ 0) : Rel (note h m (n + 1)) (rN st n w) := by
  have hw := r.way
  have hf := r.frm
  have hd := r.dim
  have ha := r.at_
  simp only [Dw.note, rN, h1, hw]
  by_cases h3 : m.way ≠ 0 ∧ m.way ≠ st.1 <;> by_cases h4 : m.tier ≠ 0
  · simp only [h3, h4, h2.2 h4, ne_eq, not_false_eq_true, and_self, if_true]
    exact ⟨rfl, fun _ => rfl, by simp, fun _ => rfl⟩
  · have h5 : ¬ w.on ≠ w.off := fun h => h4 (h2.1 h)
    simp only [h3, h4, h5, ne_eq, not_false_eq_true, and_self, if_true, if_false]
    exact ⟨rfl, fun _ => rfl, hd, ha⟩
  · simp only [h3, h4, h2.2 h4, ne_eq, not_false_eq_true, if_true, if_false]
    exact ⟨hw, hf, by simp, fun _ => rfl⟩
  · have h5 : ¬ w.on ≠ w.off := fun h => h4 (h2.1 h)
    simp only [h3, h4, h5, if_false]
    exact ⟨hw, hf, hd, ha⟩

def B64 (x : Int) : Prop := -9223372036854775808 ≤ x ∧ x ≤ 9223372036854775807
def after (W : List Win) (first : Bool) : Int × Int × Int := if first then (0, -1, -1) else match W[W.length - 1]? with
  | some w => rN (rB W (W.length - 1)) (W.length - 1) w
  | none => (0, -1, -1)
theorem rB_after {W : List Win} {w : Win} (h : w.first = false → W ≠ []) : rB (W ++ [w]) W.length = after W w.first := by
  unfold after
  rcases Nat.eq_zero_or_pos W.length with h0 | h0
  · have : W = [] := List.eq_nil_of_length_eq_zero h0
    subst this
    cases hf : w.first
    · exact absurd rfl (h hf)
    · rfl
  · obtain ⟨n, hn⟩ : ∃ n, W.length = n + 1 := ⟨W.length - 1, by omega⟩
    have h1 : (W ++ [w])[n + 1]? = some w := by rw [List.getElem?_append_right (by omega)]; simp [hn]
    have h2 : (W ++ [w])[n]? = some (W[n]'(by omega)) := by rw [List.getElem?_append_left (by omega)]; exact List.getElem?_eq_getElem (by omega)
    have h3 : W[n]? = some (W[n]'(by omega)) := List.getElem?_eq_getElem (by omega)
    rw [hn, Nat.add_sub_cancel, h3]
    simp only [rB, h1, h2, rB_app (show n < W.length by omega)]
theorem after_app {W : List Win} {w : Win} : after (W ++ [w]) false = rN (rB (W ++ [w]) W.length) W.length w := by
  simp [after]

structure Alike (s lv ti : Int) (x : Kn) (l : List Ev) (k : Nat) (p : Wd × Ws) (q : Rs) : Prop where
  wd : p.1 = q.wd
  no : q.wd.no = q.out.length
  ne : q.first = false → q.out ≠ []
  tb : B64 q.wd.ti
  rel : Rel p.2.held (after q.out q.first)
  res : (p.2.fst, p.2.found) = wrongR q.out x

theorem alike_step {s lv ti : Int} {x : Kn} {l : List Ev} {k : Nat} {p : Wd × Ws} {q : Rs} {e : Ev} (hti : B64 ti) (heb : B64 e.b) (h : Alike s lv ti x l k p q) : Alike s lv ti x l (k + 1) (overF s lv ti (wrC x) wrA p k e) (winsF s lv ti q k e) := by
  unfold overF winsF
  by_cases h1 : e.s ≠ s
  · simp only [if_pos h1]; exact ⟨h.wd, h.no, h.ne, h.tb, h.rel, h.res⟩
  simp only [if_neg h1]
  by_cases h2 : e.kind = 11
  · simp only [if_pos h2]
    refine ⟨by rw [h.wd], h.no, (by simp), hti, ?_, h.res⟩
    exact ⟨rfl, fun hc => absurd rfl hc, by simp [wrA, kp0, after], fun hc => by simp [after] at hc⟩
  simp only [if_neg h2]
  by_cases h3 : e.kind = 9
  · simp only [if_pos h3]
    have hw1 := way_moved (k := k) (was := p.1) (now := ⟨p.1.no + 1, e.a, e.b⟩) (w := ⟨k, q.wd.no + 1, q.wd.th, e.a, q.wd.ti, e.b, q.first⟩) (by rw [h.wd]) rfl
    have hw2 : (⟨k, q.wd.no + 1, q.wd.th, e.a, q.wd.ti, e.b, q.first⟩ : Win).on ≠ (⟨k, q.wd.no + 1, q.wd.th, e.a, q.wd.ti, e.b, q.first⟩ : Win).off ↔ (moved k p.1 ⟨p.1.no + 1, e.a, e.b⟩).tier ≠ 0 := by
      simp only [moved, h.wd, ne_eq, wrap_zero heb h.tb]
    generalize hwe : (⟨k, q.wd.no + 1, q.wd.th, e.a, q.wd.ti, e.b, q.first⟩ : Win) = w at hw1 hw2
    have hwf : w.first = q.first := by rw [← hwe]
    have hst := rB_after (W := q.out) (w := w) (by rw [hwf]; exact h.ne)
    rw [hwf] at hst
    have hno : p.1.no + 1 = (q.out.length : Int) + 1 := by rw [h.wd, h.no]
    have hsoon : soonR (q.out ++ [w]) x q.out.length = soon p.2.held (moved k p.1 ⟨p.1.no + 1, e.a, e.b⟩) (p.1.no + 1) x := by
      rw [soonR_at (w := w) (by simp), hst, rel_soon h.rel hw1 hw2, hno]
    have hmv : mv w = moved k p.1 ⟨p.1.no + 1, e.a, e.b⟩ := by
      have h4 : (mv w).way = (moved k p.1 ⟨p.1.no + 1, e.a, e.b⟩).way := hw1
      subst hwe
      simp only [mv, moved, h.wd] at h4 ⊢
      rw [h4]
    refine ⟨by rw [h.wd], by simp [h.no], (by simp), heb, ?_, ?_⟩
    · rw [after_app, hst]
      have := rel_note h.rel (n := q.out.length) hw1 hw2
      simp only [wrC]
      rw [hno]
      exact this
    · rw [wrongR_app, hsoon, ← h.res, hmv]
      simp only [wrC]
      cases hf : p.2.found <;> cases hs : soon p.2.held (moved k p.1 ⟨p.1.no + 1, e.a, e.b⟩) (p.1.no + 1) x <;> simp
      have := h.res
      rw [hf] at this
      unfold wrongR at this
      split at this
      · split at this
        · simp at this
        · simpa using congrArg Prod.fst this
      · simpa using congrArg Prod.fst this
  · simp only [if_neg h3]; exact ⟨h.wd, h.no, h.ne, h.tb, h.rel, h.res⟩

theorem alike (s lv ti : Int) (x : Kn) (l : List Ev) (hti : B64 ti) (hl : ∀ e ∈ l, B64 e.b) : ∀ k, Alike s lv ti x l k (upI (overF s lv ti (wrC x) wrA) (⟨0, lv, ti⟩, ⟨mv0, kp0, false⟩) l k) (winsU s lv ti l k) := by
  intro k
  induction k with
  | zero => exact ⟨rfl, rfl, (by simp [winsU, upI]), hti, ⟨rfl, fun hc => absurd rfl hc, by simp [kp0, after, winsU, upI], fun hc => by simp [after, winsU, upI] at hc⟩, rfl⟩
  | succ k ih =>
    unfold winsU at ih ⊢
    simp only [upI]
    split
    · rename_i e he; exact alike_step hti (hl e (List.mem_of_getElem? he)) ih
    · exact ⟨ih.wd, ih.no, ih.ne, ih.tb, ih.rel, ih.res⟩
theorem wrong_eq {s lv ti : Int} {x : Kn} {l : List Ev} (hti : B64 ti) (hl : ∀ e ∈ l, B64 e.b) : ((ws s lv ti x l).fst, (ws s lv ti x l).found) = wrongR (wins s lv ti l) x := (alike s lv ti x l hti hl l.length).res

theorem moves_step {s lv ti : Int} {k : Nat} {p : Wd × List Mv} {q : Rs} {e : Ev} (ih1 : p.1 = q.wd) (ih2 : p.2 = movesR q.out) :
    (overF s lv ti mvC (fun out => out) p k e).1 = (winsF s lv ti q k e).wd ∧ (overF s lv ti mvC (fun out => out) p k e).2 = movesR (winsF s lv ti q k e).out := by
  unfold overF winsF
  by_cases h1 : e.s ≠ s
  · simp only [if_pos h1]; exact ⟨ih1, ih2⟩
  simp only [if_neg h1]
  by_cases h2 : e.kind = 11
  · simp only [if_pos h2]; exact ⟨by rw [ih1], ih2⟩
  simp only [if_neg h2]
  by_cases h3 : e.kind = 9
  · simp only [if_pos h3]
    refine ⟨by rw [ih1], ?_⟩
    rw [ih2, ih1]
    have hw1 := way_moved (k := k) (was := q.wd) (now := ⟨q.wd.no + 1, e.a, e.b⟩) (w := ⟨k, q.wd.no + 1, q.wd.th, e.a, q.wd.ti, e.b, q.first⟩) rfl rfl
    have hm : mv ⟨k, q.wd.no + 1, q.wd.th, e.a, q.wd.ti, e.b, q.first⟩ = moved k q.wd ⟨q.wd.no + 1, e.a, e.b⟩ := by
      simp only [mv, hw1]; rfl
    simp only [movesR, List.filterMap_append, mvC]
    by_cases h5 : (moved k q.wd ⟨q.wd.no + 1, e.a, e.b⟩).way ≠ 0 ∨ (moved k q.wd ⟨q.wd.no + 1, e.a, e.b⟩).tier ≠ 0
    · rw [if_pos h5]; simp only [List.filterMap_cons, List.filterMap_nil, mvO, hm, if_pos h5]
    · rw [if_neg h5]; simp only [List.filterMap_cons, List.filterMap_nil, mvO, hm, if_neg h5, List.append_nil]
  · simp only [if_neg h3]; exact ⟨ih1, ih2⟩
theorem moves_eq (s lv ti : Int) (l : List Ev) : moves s lv ti l = movesR (wins s lv ti l) := by
  have h : ∀ k, (upI (overF s lv ti mvC fun out => out) (⟨0, lv, ti⟩, []) l k).1 = (winsU s lv ti l k).wd ∧ (upI (overF s lv ti mvC fun out => out) (⟨0, lv, ti⟩, []) l k).2 = movesR (winsU s lv ti l k).out := by
    intro k
    induction k with
    | zero => exact ⟨rfl, rfl⟩
    | succ k ih =>
      unfold winsU at ih ⊢
      simp only [upI]
      split
      · exact moves_step ih.1 ih.2
      · exact ih
  exact (h _).2
theorem windows_eq (s : Int) (l : List Ev) : windows s l = windowsR s l := by
  have h : ∀ k, (upI (overF s 0 0 wnC fun _ => 0) (⟨0, 0, 0⟩, 0) l k).2 = upI (winF s) 0 l k := by
    intro k
    induction k with
    | zero => rfl
    | succ k ih =>
      simp only [upI]
      split
      · rw [← ih]
        unfold overF winF wnC
        repeat' split
        all_goals first | rfl | contradiction
      · exact ih
  exact h _
theorem wins_step {s lv ti : Int} {k : Nat} {q : Rs} {e : Ev} (h : q.out.length ≤ k) : (winsF s lv ti q k e).out.length ≤ k + 1 := by
  unfold winsF
  repeat' split
  all_goals first | (simp only [List.length_append, List.length_singleton]; omega) | omega
theorem wins_len (s lv ti : Int) (l : List Ev) : ∀ k, (winsU s lv ti l k).out.length ≤ k := by
  intro k
  induction k with
  | zero => simp [winsU, upI]
  | succ k ih =>
    unfold winsU at ih ⊢
    simp only [upI]
    split
    · exact wins_step ih
    · omega
theorem mvC_t {out : List Mv} {k : Int} {was now : Wd} (h : decide (([(moved k was now).at_, (moved k was now).way, (moved k was now).tier] : List Int) = [k, 0, 0]) = false) : mvC out k was now = out ++ [moved k was now] := by
  have h1 : (moved k was now).at_ = k := rfl
  simp only [decide_eq_false_iff_not, h1, List.cons.injEq, and_true, true_and] at h
  unfold mvC
  rw [if_pos (by omega)]
theorem mvC_f {out : List Mv} {k : Int} {was now : Wd} (h : decide (([(moved k was now).at_, (moved k was now).way, (moved k was now).tier] : List Int) = [k, 0, 0]) = true) : mvC out k was now = out := by
  simp only [decide_eq_true_eq, List.cons.injEq, and_true] at h
  unfold mvC
  rw [if_neg (by omega)]
theorem mvC_len {out : List Mv} {k : Int} {was now : Wd} : (mvC out k was now).length ≤ out.length + 1 := by
  unfold mvC; split <;> simp
theorem mvs_next {W : List Win} {k : Nat} {w : Win} (h : W[k]? = some w) : (W.take (k + 1)).filterMap mvO = if way w ≠ 0 ∨ IntKind.i64.wrap (w.on - w.off) ≠ 0 then (W.take k).filterMap mvO ++ [⟨w.at_, way w, IntKind.i64.wrap (w.on - w.off)⟩] else (W.take k).filterMap mvO := by
  rw [List.take_add_one, h, List.filterMap_append]
  by_cases hc : way w ≠ 0 ∨ IntKind.i64.wrap (w.on - w.off) ≠ 0
  · have hm : mvO w = some ⟨w.at_, way w, IntKind.i64.wrap (w.on - w.off)⟩ := if_pos hc
    rw [if_pos hc]; simp [hm]
  · have hm : mvO w = none := if_neg hc
    rw [if_neg hc]; simp [hm]
theorem first_next {W : List Win} {n j : Nat} {e : Win} (hnf : ∀ i w, j < i → i ≤ n → W[i]? = some w → w.first = false) (he : W[j]? = some e) (hf : e.first = false) : ∀ i w, j - 1 < i → i ≤ n → W[i]? = some w → w.first = false := fun i w h1 h2 hw => by
  by_cases hij : i = j
  · subst hij; rw [he] at hw; cases hw; exact hf
  · exact hnf i w (by omega) h2 hw
theorem soon_next {W : List Win} {x : Kn} {k : Nat} (hno : ∀ j, j < k → soonR W x j = false) (h : soonR W x k = false) : ∀ j, j < k + 1 → soonR W x j = false := fun j hj => by
  by_cases hjk : j = k
  · subst hjk; exact h
  · exact hno j (by omega)
theorem ws_at {s lv ti : Int} {x : Kn} {l : List Ev} {k : Nat} {w : Win} (hti : B64 ti) (hl : ∀ e ∈ l, B64 e.b) (hno : ∀ j, j < k → soonR (wins s lv ti l) x j = false) (he : (wins s lv ti l)[k]? = some w) (hs : soonR (wins s lv ti l) x k = true) :
    ws s lv ti x l = ⟨mv w, (ws s lv ti x l).held, true⟩ := by
  have h := wrong_eq (s := s) (lv := lv) (x := x) hti hl
  rw [wrongR_at hno he hs] at h
  have h1 := congrArg Prod.fst h
  have h2 := congrArg Prod.snd h
  simp only at h1 h2
  rw [← h1, ← h2]
theorem ws_no {s lv ti : Int} {x : Kn} {l : List Ev} (hti : B64 ti) (hl : ∀ e ∈ l, B64 e.b) (hno : ∀ j, j < (wins s lv ti l).length → soonR (wins s lv ti l) x j = false) :
    ws s lv ti x l = ⟨mv0, (ws s lv ti x l).held, false⟩ := by
  have h := wrong_eq (s := s) (lv := lv) (x := x) hti hl
  rw [wrongR_no hno] at h
  have h1 := congrArg Prod.fst h
  have h2 := congrArg Prod.snd h
  simp only at h1 h2
  rw [← h1, ← h2]
theorem moves_len (s lv ti : Int) (l : List Ev) : (moves s lv ti l).length ≤ l.length := by
  rw [moves_eq]
  exact Nat.le_trans (List.length_filterMap_le _ _) (wins_len s lv ti l l.length)
end Dw
end Go.LK
