/-
  Parts of slices and whole arrays as slices: what they read; the head of an owned row.
-/
import Derived.Test.YtohjlkjhpibkmaaGreatDoorLk22
namespace Go.LK
open Go Go.RowKit

/-- V[a:b], of elements of s cells. -/
def vcut (V : Value) (s a b : Nat) : Value := match V with
  | .slice A _ cap => .slice (if cap = a then A else A.map (·.add (a * s))) (b - a) (cap - a)
  | v => v
theorem Elt.cut {w : World} {V : Value} {s : Nat} {els : List (List Value)} (h : Elt w V s els) {a b : Nat} (hab : a ≤ b) (hb : b ≤ els.length) : Elt w (vcut V s a b) s ((els.take b).drop a) := by
  obtain ⟨A, cap, hV, h1, h2⟩ := h.form
  have hlen : ((els.take b).drop a).length = b - a := by simp; omega
  have hat : ∀ i e, ((els.take b).drop a)[i]? = some e → a + i < b ∧ els[a + i]? = some e := fun i e hi => by
    have hlt := (List.getElem?_eq_some_iff.1 hi).1
    rw [hlen] at hlt
    rw [List.getElem?_drop, List.getElem?_take, if_pos (by omega)] at hi
    exact ⟨by omega, hi⟩
  have hne : (els.take b).drop a ≠ [] → ∃ cap', vcut V s a b = .slice (some ⟨vblk V, voff V + a * s, none⟩) (b - a) cap' := fun hn => by
    have hlt : a < b := Nat.lt_of_not_le fun hc => hn (List.eq_nil_of_length_eq_zero (by omega))
    obtain ⟨cap', hv⟩ := h.addr (fun hc => by subst hc; simp at hb; omega)
    have hcc : cap' = cap := by rw [hV] at hv; injection hv with _ _ h3; exact h3.symm
    have hA : A = some ⟨vblk V, voff V, none⟩ := by
      have := hV.symm.trans hv
      injection this with h3
    refine ⟨cap - a, ?_⟩
    have hvc : vcut V s a b = .slice (if cap = a then A else A.map (·.add (a * s))) (b - a) (cap - a) := by rw [hV]; rfl
    rw [hvc, if_neg (by omega), hA]
    simp [add_at]
  refine ⟨fun x hx => h.len x (List.mem_of_mem_take (List.mem_of_mem_drop hx)), ?_, fun hn => ?_, fun i e j u hi hj => ?_⟩
  · rw [hlen]
    subst hV
    exact ⟨_, cap - a, rfl, by omega, by omega⟩
  · obtain ⟨cap', hv⟩ := hne hn
    exact ⟨cap', by rw [hlen, hv]; rfl⟩
  · obtain ⟨cap', hv⟩ := hne (fun hc => by rw [hc] at hi; simp at hi)
    obtain ⟨h3, h4⟩ := hat i e hi
    have := h.cells (a + i) e j u h4 hj
    rw [hv]
    show w.cell? ⟨vblk V, voff V + a * s + i * s + j, none⟩ = some u
    rw [show voff V + a * s + i * s + j = voff V + (a + i) * s + j from by rw [Nat.add_mul]; omega]
    exact this

section
variable {c : Cx} {k : List It} {E : Env} {L : List Sp} {ops : Array Oper} {rest : List Oper} {ty : TypeId} {v V : Value} {x y z : Operand} {T t : TypeId} {s : Nat}
variable {α : Type} {f : α → List Value} {l : List α}

theorem Src.cut {a b : Nat} (hs : Src c L V s (l.map f)) (hab : a ≤ b) (hb : b ≤ l.length) : Src c L (vcut V s a b) s (((l.take b).drop a).map f) := fun ok w hst => by
  have := (hs ok w hst).cut hab (by rw [List.length_map]; exact hb)
  rwa [← List.map_take, ← List.map_drop] at this
theorem Src.head {b : Nat} (hs : Src c L V s (l.map f)) (hb : b ≤ l.length) : Src c L (vcut V s 0 b) s ((l.take b).map f) := Src.cut (a := 0) hs (Nat.zero_le _) hb
theorem Src.tail {a b : Nat} (hs : Src c L V s (l.map f)) (ha : a ≤ l.length) (hb : b = l.length) : Src c L (vcut V s a b) s ((l.drop a).map f) := by
  subst hb
  have := Src.cut (b := l.length) hs ha (Nat.le_refl _)
  rwa [List.take_of_length_le (Nat.le_refl _)] at this

theorem run_sliceV {P : Program} {w : World} {V : Value} {els : List (List Value)} (hT : ∀ w, (underlying T).run P w = .ok (.slice t) w) (hz : ∀ w, (sizeOf t).run P w = .ok s w) (hE : Elt w V s els) {lo hi : Option Value} {a b : Nat}
    (hlo : (lo = none ∧ a = 0) ∨ lo = some (.int .i64 a)) (hhi : (hi = none ∧ b = els.length) ∨ hi = some (.int .i64 b)) (hab : a ≤ b) (hb : b ≤ els.length) : (Instr.sliceAt T V lo hi none).run P w = .ok (vcut V s a b) w := by
  obtain ⟨A, cap, hV, h1, h2⟩ := hE.form
  subst hV
  have hcb : b ≤ cap := by omega
  rcases hlo with ⟨rfl, rfl⟩ | rfl <;> rcases hhi with ⟨rfl, rfl⟩ | rfl <;>
    simp [Instr.sliceAt, Instr.slice, Instr.sliceBounds, Instr.sliceBound, asIntOf, hT, hz, vcut, hab, hcb, hb, h1]

theorem Qt.cutHead {j : Int} (hT : ∀ w, (underlying T).run c.P w = .ok (.slice t) w) (hz : ∀ w, (sizeOf t).run c.P w = .ok s w) (hx : ev E x = some V) (hs : Src c L V s (l.map f)) (hy : ev E z = some (.int .i64 j)) (h0 : 0 ≤ j) (h1 : j ≤ l.length) :
    Qt c E L (.slice T x none (some z) none) ty (vcut V s 0 j.toNat) := fun ok a w ha hst _ _ _ _ => by
  have h2 : ((j.toNat : Nat) : Int) = j := Int.toNat_of_nonneg h0
  have := run_sliceV (P := c.P) (w := w) (lo := none) (hi := some (.int .i64 j)) hT hz (hs ok w hst) (.inl ⟨rfl, rfl⟩) (.inr (by rw [h2])) (Nat.zero_le _) (by rw [List.length_map]; omega)
  simp [execOp, ha.ev hx, ha.ev hy, this]

/-- The head of an owned row is owned. -/
theorem row_head {w : World} {V : Value} {els : List (List Value)} {b : Nat} (h : (row V t s els).holds w) (hb : b ≤ els.length) : (row (vcut V s 0 b) t s (els.take b)).holds w := by
  obtain ⟨ho, hl⟩ := h
  have hlt : ∀ x ∈ els.take b, x.length = s := fun x hx => hl x (List.mem_of_mem_take hx)
  have hlen : (els.take b).length = b := by rw [List.length_take]; omega
  refine ⟨⟨length_flatten hlt, ?_⟩, hlt⟩
  rcases ho.2 with ⟨rfl, hn⟩ | ⟨g, cap, cur, rfl, hb', hg, hnc, hcm, hcs, htake⟩
  · refine .inl ⟨?_, by rw [hlen]; omega⟩
    have : b = 0 := by omega
    subst this
    rfl
  · refine .inr ⟨g, cap, cur, ?_, hb', hg, by omega, hcm, hcs, ?_⟩
    · rw [hlen]
      by_cases hc : cap = 0
      · simp [vcut, hc]
      · simp [vcut, hc, Addr.add]
    · rw [hlen]
      have h1 : els.flatten.take (b * s) = (els.take b).flatten := by
        conv => lhs; rw [← List.take_append_drop b els, List.flatten_append]
        rw [List.take_append_of_le_length (by rw [length_flatten hlt, hlen]; exact Nat.le_refl _), List.take_of_length_le (by rw [length_flatten hlt, hlen]; exact Nat.le_refl _)]
      rw [← h1, ← htake, List.take_take, Nat.min_eq_left (Nat.mul_le_mul_right s hb)]
theorem Lo.headRow (i : Nat) {j : Int} (hT : ∀ w, (underlying T).run c.P w = .ok (.slice t) w) (hz : ∀ w, (sizeOf t).run c.P w = .ok s w) (hx : ev E x = some V) (hi : L[i]? = some (row V t s (l.map f))) (hy : ev E z = some (.int .i64 j)) (h0 : 0 ≤ j) (h1 : j ≤ l.length) :
    Lo c E L (.slice T x none (some z) none) ty fun v L' => v = vcut V s 0 j.toNat ∧ L' = L.set i (row (vcut V s 0 j.toNat) t s ((l.take j.toNat).map f)) := fun ok a w ha hst d pos af gd K Q hK => by
  have hh := hst.at_ _ (List.mem_of_getElem? hi)
  refine wp_loud (v := vcut V s 0 j.toNat) (w' := w) (Qt.cutHead hT hz hx (Src.row i hi) hy h0 h1 ok a w ha hst _ _ _ _) (hK _ _ _ ⟨rfl, rfl⟩ (hst.set hi (Frame.refl w _) ?_ (fun k hk => .inl ?_)))
  · have := row_head (b := j.toNat) hh (by rw [List.length_map]; omega)
    rwa [← List.map_take] at this
  · rcases hh.1.2 with ⟨rfl, _⟩ | ⟨g, cap, cur, rfl, _⟩
    · simp [row, vcut, Value.ownBlock] at hk
    · by_cases hc : cap = 0 <;> simpa [row, vcut, Value.ownBlock, hc, Addr.add] using hk

/-! ### A whole array, as a slice -/
theorem whole_elt {w : World} {g n : Nat} {f : α → Value} (h : (var g (l.map f) t).holds w) (hl : l.length = n) (hm : n ≤ maxLen) : Elt w (.slice (some ⟨g, 0, none⟩) n n) 1 (l.map fun x => [f x]) := by
  subst hl
  refine ⟨fun x hx => ?_, ⟨_, l.length, by rw [List.length_map], by rw [List.length_map]; exact Nat.le_refl _, hm⟩, fun _ => ⟨l.length, by rw [List.length_map]; rfl⟩, fun i e j u hi hj => ?_⟩
  · obtain ⟨y, _, rfl⟩ := List.mem_map.1 hx; rfl
  · rw [List.getElem?_map] at hi
    obtain ⟨y, hy, rfl⟩ := Option.map_eq_some_iff.1 hi
    have hj0 : j = 0 := by
      have := (List.getElem?_eq_some_iff.1 hj).1
      simp at this; exact this
    subst hj0
    simp at hj; subst hj
    have hh : w.heap[g]? = some (.cells (l.map f).toArray t (0, 0)) := h
    show w.cell? ⟨g, 0 + i * 1 + 0, none⟩ = _
    rw [cell_of_row w g _ _ t _ hh]
    simp [hy]
theorem Src.whole {g n : Nat} {f : α → Value} (i : Nat) (hi : L[i]? = some (var g (l.map f) t)) (hl : l.length = n) (hm : n ≤ maxLen) : Src c L (.slice (some ⟨g, 0, none⟩) n n) 1 (l.map fun x => [f x]) := fun _ w hs => whole_elt (hs.at_ _ (List.mem_of_getElem? hi)) hl hm
end
end Go.LK
