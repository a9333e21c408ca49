/-
  The plain law of thresholds that were told (tables), and of cuts.
-/
import Derived.Test.YtdnalilglacjbaaLk36
import Derived.Test.YtdnalilglacjbaaMono0
namespace Go.LK
open Go
structure Kw where
  to : Int
  thr : Int
  ep : Int
  at_ : Int
def Kw.cells (k : Kw) : List Value := [.int .i64 k.to, .int .i64 k.thr, .int .i64 k.ep, .int .i64 k.at_]
theorem Kw.one {l : List Kw} : ∀ a ∈ l, (Kw.cells a).all Value.oneCell' = true := fun _ _ => rfl
structure Cq where
  to : Int
  tier : Int
  weight : Int
  most : Int
def Cq.cells (k : Cq) : List Value := [.int .i64 k.to, .int .i64 k.tier, .int .i64 k.weight, .int .i64 k.most]
theorem Cq.one {l : List Cq} : ∀ a ∈ l, (Cq.cells a).all Value.oneCell' = true := fun _ _ => rfl
structure Svc where
  w : Int
  q : Int
  n : Int
  t : Int
  s : Int
  ttl : Int
  k0 : Int
  k1 : Int
  k2 : Int
  k3 : Int
  k4 : Int
  k5 : Int
  k6 : Int
  cv : Value
  ok : cv.oneCell' = true
def Svc.cells (x : Svc) : List Value := [.int .i64 x.w, .int .i64 x.q, .int .i64 x.n, .int .i64 x.t, .int .i64 x.s, .int .i64 x.ttl, .int .i64 x.k0, .int .i64 x.k1, .int .i64 x.k2, .int .i64 x.k3, .int .i64 x.k4, .int .i64 x.k5, .int .i64 x.k6, x.cv]
theorem Svc.one {l : List Svc} : ∀ a ∈ l, (Svc.cells a).all Value.oneCell' = true := fun a _ => by
  simp only [Svc.cells, List.all_cons, List.all_nil, a.ok]; rfl
end Go.LK
namespace Go.LK.Sh
open Go Go.LK
def zeroK : Kw := ⟨0, 0, 0, 0⟩
def kw : Option Kw → Kw
  | none => zeroK
  | some k => k
abbrev Ts := Nat → Option Kw
def keep (n most : Int) : Int := if 0 > (if most < n then most else n) then 0 else (if most < n then most else n)
theorem keep_bnd (n : Int) {most : Int} (h : 0 ≤ most) : 0 ≤ keep n most ∧ keep n most ≤ most := by
  unfold keep; split <;> split <;> omega
def tick (n : Int) : Int := keep n 1099511627776
theorem tick_bnd (n : Int) : 0 ≤ tick n ∧ tick n ≤ 1099511627776 := keep_bnd n (by decide)
def left (a b : Int) : Int := tick (tick a - tick b)
def has (to : Int) : Bool := decide (0 ≤ to) && decide (to < 8)
theorem has_iff {to : Int} : has to = true ↔ 0 ≤ to ∧ to < 8 := by simp [has]
theorem has_no {to : Int} (h : to < 0 ∨ 7 < to) : has to = false := by
  cases hh : has to with
  | false => rfl
  | true => have := has_iff.1 hh; omega
def newK (o : Option Kw) (to thr ep now : Int) : Kw := match o with
  | none => ⟨to, thr, ep, tick now⟩
  | some k => if k.ep < ep then ⟨to, thr, ep, tick now⟩ else ⟨k.to, k.thr, k.ep, tick now⟩
def late (o : Option Kw) (ep : Int) : Bool := match o with
  | none => false
  | some k => decide (ep < k.ep)
def upd (d : Ts) (to : Int) (k : Kw) : Ts := fun j => if (j : Int) = to then some k else d j
def lrn (d : Ts) (to thr ep now : Int) : Ts × Bool := if has to = true ∧ late (d to.toNat) ep = false then (upd d to (newK (d to.toNat) to thr ep now), true) else (d, false)
def get (d : Ts) (ttl to now : Int) : Kw × Bool := if has to = true then (match d to.toNat with
  | some k => if left now k.at_ ≤ ttl then (k, true) else (zeroK, false)
  | none => (zeroK, false)) else (zeroK, false)
def nil : Ts := fun _ => none
def tbC (ttl : Int) (d : Ts) : List Value := [.bool true, .int .i64 ttl,
  .bool (d 0).isSome, .int .i64 (kw (d 0)).to, .int .i64 (kw (d 0)).thr, .int .i64 (kw (d 0)).ep, .int .i64 (kw (d 0)).at_,
  .bool (d 1).isSome, .int .i64 (kw (d 1)).to, .int .i64 (kw (d 1)).thr, .int .i64 (kw (d 1)).ep, .int .i64 (kw (d 1)).at_,
  .bool (d 2).isSome, .int .i64 (kw (d 2)).to, .int .i64 (kw (d 2)).thr, .int .i64 (kw (d 2)).ep, .int .i64 (kw (d 2)).at_,
  .bool (d 3).isSome, .int .i64 (kw (d 3)).to, .int .i64 (kw (d 3)).thr, .int .i64 (kw (d 3)).ep, .int .i64 (kw (d 3)).at_,
  .bool (d 4).isSome, .int .i64 (kw (d 4)).to, .int .i64 (kw (d 4)).thr, .int .i64 (kw (d 4)).ep, .int .i64 (kw (d 4)).at_,
  .bool (d 5).isSome, .int .i64 (kw (d 5)).to, .int .i64 (kw (d 5)).thr, .int .i64 (kw (d 5)).ep, .int .i64 (kw (d 5)).at_,
  .bool (d 6).isSome, .int .i64 (kw (d 6)).to, .int .i64 (kw (d 6)).thr, .int .i64 (kw (d 6)).ep, .int .i64 (kw (d 6)).at_,
  .bool (d 7).isSome, .int .i64 (kw (d 7)).to, .int .i64 (kw (d 7)).thr, .int .i64 (kw (d 7)).ep, .int .i64 (kw (d 7)).at_]
def tkC (o : Option Kw) : List Value := [.bool o.isSome, .int .i64 (kw o).to, .int .i64 (kw o).thr, .int .i64 (kw o).ep, .int .i64 (kw o).at_]
section
variable {d : Ts} {to thr ep now ttl : Int} {k : Kw} {j i n m off : Nat} {l : List Kw} {v : Value}
theorem eight (h : 0 ≤ to ∧ to < 8) : to = 0 ∨ to = 1 ∨ to = 2 ∨ to = 3 ∨ to = 4 ∨ to = 5 ∨ to = 6 ∨ to = 7 := by omega
theorem five (h : i < 5) : i = 0 ∨ i = 1 ∨ i = 2 ∨ i = 3 ∨ i = 4 := by omega
theorem tb_one (h : 0 ≤ to ∧ to < 8) (ho : off = 2 + to.toNat * 5 + i) (hv : (tkC (d to.toNat))[i]? = some v) : (tbC ttl d)[off]? = some v := by
  have hi : i < 5 := (List.getElem?_eq_some_iff.1 hv).1
  subst ho
  rw [← hv]
  rcases eight h with h | h | h | h | h | h | h | h <;> subst h <;> rcases five hi with hi | hi | hi | hi | hi <;> subst hi <;> rfl
theorem tb_all (h : 0 ≤ to ∧ to < 8) (ho : off = 2 + to.toNat * 5) : ((tbC ttl d).drop off).take 5 = tkC (d to.toNat) := by
  subst ho
  rcases eight h with h | h | h | h | h | h | h | h <;> subst h <;> rfl
theorem tb_kw (h : 0 ≤ to ∧ to < 8) (ho : off = 2 + to.toNat * 5 + 1) : ((tbC ttl d).drop off).take 4 = Kw.cells (kw (d to.toNat)) := by
  subst ho
  rcases eight h with h | h | h | h | h | h | h | h <;> subst h <;> rfl
theorem tb_fit (h : 0 ≤ to ∧ to < 8) (ho : off = 2 + to.toNat * 5 + i) (hn : i + n ≤ 5) : Nat.ble (off + n) (tbC ttl d).length = true := by
  have : (tbC ttl d).length = 42 := rfl
  rw [Nat.ble_eq, this]; omega
theorem tb_set5 (h : 0 ≤ to ∧ to < 8) (ho : off = 2 + to.toNat * 5) : (tbC ttl d).take off ++ tkC (some k) ++ (tbC ttl d).drop (off + (tkC (some k)).length) = tbC ttl (upd d to k) := by
  subst ho
  rcases eight h with h | h | h | h | h | h | h | h <;> subst h <;> rfl
def atK (d : Ts) (to n : Int) : Kw := { kw (d to.toNat) with at_ := n }
theorem tb_set1 (h : 0 ≤ to ∧ to < 8) (ho : off = 2 + to.toNat * 5 + 4) (hs : (d to.toNat).isSome = true) (n : Int) : (tbC ttl d).take off ++ [.int .i64 n] ++ (tbC ttl d).drop (off + [Value.int .i64 n].length) = tbC ttl (upd d to (atK d to n)) := by
  subst ho
  obtain ⟨k, hk⟩ := Option.isSome_iff_exists.1 hs
  have e1 : (upd d to (atK d to n)) to.toNat = some (atK d to n) := if_pos (by omega)
  rcases eight h with h | h | h | h | h | h | h | h <;> subst h <;> simp [tbC, upd, atK, kw] at hk ⊢ <;> simp [hk]
theorem upd_self (h : 0 ≤ to) {x : Kw} : upd d to x to.toNat = some x := if_pos (by omega)
theorem upd_upd {x y : Kw} : upd (upd d to x) to y = upd d to y := by
  funext j; unfold upd; split <;> rfl
theorem lrn_out (h : has to = false) : lrn d to thr ep now = (d, false) := if_neg (by simp [h])
theorem lrn_late (hd : d to.toNat = some k) (h : ep < k.ep) : lrn d to thr ep now = (d, false) := if_neg (by simp [hd, late, h])
theorem lrn_new (hh : has to = true) (hd : d to.toNat = none) : lrn d to thr ep now = (upd d to ⟨to, thr, ep, tick now⟩, true) := by
  unfold lrn; rw [if_pos ⟨hh, by rw [hd]; rfl⟩, hd]; rfl
theorem lrn_more (hh : has to = true) (hd : d to.toNat = some k) (h : k.ep < ep) : lrn d to thr ep now = (upd d to ⟨to, thr, ep, tick now⟩, true) := by
  unfold lrn; rw [if_pos ⟨hh, by rw [hd]; exact decide_eq_false (by omega)⟩, hd]; simp [newK, h]
theorem lrn_same (hh : has to = true) (hd : d to.toNat = some k) (h : k.ep = ep) : lrn d to thr ep now = (upd d to ⟨k.to, k.thr, k.ep, tick now⟩, true) := by
  unfold lrn; rw [if_pos ⟨hh, by rw [hd]; exact decide_eq_false (by omega)⟩, hd]; simp [newK, show ¬ k.ep < ep from by omega]
theorem get_out (h : has to = false) : get d ttl to now = (zeroK, false) := if_neg (by simp [h])
theorem get_none (hd : d to.toNat = none) : get d ttl to now = (zeroK, false) := by unfold get; rw [hd]; simp
theorem get_old (hd : d to.toNat = some k) (h : ¬ left now k.at_ ≤ ttl) : get d ttl to now = (zeroK, false) := by unfold get; rw [hd]; simp [h]
theorem get_yes (hh : has to = true) (hd : d to.toNat = some k) (h : left now k.at_ ≤ ttl) : get d ttl to now = (k, true) := by unfold get; rw [if_pos hh, hd]; simp [h]
/-! ### As a row -/
def Inv (d : Ts) : Prop := ∀ (j : Nat) (k : Kw), j < 8 → d j = some k → k.to = (j : Int)
theorem Inv.nil : Inv nil := fun _ _ _ h => by cases h
theorem Inv.lrn (h : Inv d) : Inv (lrn d to thr ep now).1 := by
  unfold Sh.lrn
  split
  · rename_i hc
    intro j k hj hk
    have hk2 : (if (j : Int) = to then some (newK (d to.toNat) to thr ep now) else d j) = some k := hk
    split at hk2
    · rename_i hjt
      cases hk2
      unfold newK
      cases hd : d to.toNat with
      | none => exact hjt.symm
      | some q =>
        simp only
        split
        · exact hjt.symm
        · exact (h _ q (by omega) hd).trans (by omega)
    · exact h j k hj hk2
  · exact h
def rowN (d : Ts) (n : Nat) : List Kw := (List.range n).filterMap d
def row (d : Ts) : List Kw := rowN d 8
theorem rowN_none (h : d n = none) : rowN d (n + 1) = rowN d n := by unfold rowN; rw [List.range_succ, List.filterMap_append]; simp [h]
theorem rowN_some (h : d n = some k) : rowN d (n + 1) = rowN d n ++ [k] := by unfold rowN; rw [List.range_succ, List.filterMap_append]; simp [h]
theorem rowN_len (d : Ts) (n : Nat) : (rowN d n).length ≤ n := by unfold rowN; exact Nat.le_trans (List.length_filterMap_le _ _) (by simp)
theorem row_len (d : Ts) : (row d).length ≤ 8 := rowN_len d 8
def fnd (l : List Kw) (to : Int) : Int := match l.findIdx? (fun k => decide (k.to = to)) with
  | some i => i
  | none => -1
theorem fnd_hit (hn : ∀ (j : Nat) (x : Kw), j < i → l[j]? = some x → ¬ x.to = to) (h : l[i]? = some k) (hk : k.to = to) : fnd l to = i := by
  have : l.findIdx? (fun k => decide (k.to = to)) = some i := by
    rw [List.findIdx?_eq_some_iff_getElem]
    obtain ⟨hl, he⟩ := List.getElem?_eq_some_iff.1 h
    refine ⟨hl, decide_eq_true (he ▸ hk), fun j hj => ?_⟩
    have := hn j _ hj (List.getElem?_eq_getElem (by omega))
    simpa using this
  unfold fnd; rw [this]
theorem fnd_no (hn : ∀ (j : Nat) (x : Kw), l[j]? = some x → ¬ x.to = to) : fnd l to = -1 := by
  have : l.findIdx? (fun k => decide (k.to = to)) = none := by
    rw [List.findIdx?_eq_none_iff]
    intro x hx
    obtain ⟨j, hj⟩ := List.mem_iff_getElem?.1 hx
    exact decide_eq_false (hn j x hj)
  unfold fnd; rw [this]
theorem fnd_cases (l : List Kw) (to : Int) : (fnd l to = -1 ∧ ∀ x ∈ l, ¬ x.to = to) ∨ ∃ (i : Nat) (k : Kw), fnd l to = i ∧ l[i]? = some k ∧ k.to = to := by
  unfold fnd
  cases h : l.findIdx? (fun k => decide (k.to = to)) with
  | none =>
    rw [List.findIdx?_eq_none_iff] at h
    exact .inl ⟨rfl, fun x hx => by simpa using h x hx⟩
  | some i =>
    rw [List.findIdx?_eq_some_iff_getElem] at h
    obtain ⟨hl, hp, _⟩ := h
    exact .inr ⟨i, l[i], rfl, List.getElem?_eq_getElem hl, by simpa using hp⟩
theorem mem_rowN {x : Kw} : x ∈ rowN d n ↔ ∃ j, j < n ∧ d j = some x := by
  unfold rowN; rw [List.mem_filterMap]
  exact ⟨fun ⟨j, hj, h⟩ => ⟨j, List.mem_range.1 hj, h⟩, fun ⟨j, hj, h⟩ => ⟨j, List.mem_range.2 hj, h⟩⟩
/-- Where one stands in a row of some of those that were told. -/
theorem fnd_row {p : Kw → Bool} (h : Inv d) (hj : j < 8) : (fnd ((row d).filter p) (j : Int) = -1 ∧ ∀ k, d j = some k → p k = false) ∨ ∃ (i : Nat) (k : Kw), fnd ((row d).filter p) (j : Int) = i ∧ ((row d).filter p)[i]? = some k ∧ d j = some k ∧ p k = true := by
  rcases fnd_cases ((row d).filter p) (j : Int) with ⟨h1, h2⟩ | ⟨i, k, h1, h2, h3⟩
  · refine .inl ⟨h1, fun k hk => ?_⟩
    cases hp : p k with
    | false => rfl
    | true => exact absurd (h j k hj hk) (h2 k (List.mem_filter.2 ⟨mem_rowN.2 ⟨j, hj, hk⟩, hp⟩))
  · have hm := List.mem_filter.1 (List.mem_of_getElem? h2)
    obtain ⟨j', hj', hk⟩ := mem_rowN.1 hm.1
    have := h j' k hj' hk
    have hjj : j' = j := by omega
    subst hjj
    exact .inr ⟨i, k, h1, h2, hk, hm.2⟩
theorem fnd_row0 (h : Inv d) (hj : j < 8) : (fnd (row d) (j : Int) = -1 ∧ d j = none) ∨ ∃ (i : Nat) (k : Kw), fnd (row d) (j : Int) = i ∧ (row d)[i]? = some k ∧ d j = some k := by
  have hf : (row d).filter (fun _ => true) = row d := List.filter_eq_self.2 fun _ _ => rfl
  rcases fnd_row (p := fun _ => true) h hj with ⟨h1, h2⟩ | ⟨i, k, h1, h2, h3, _⟩
  · rw [hf] at h1
    refine .inl ⟨h1, ?_⟩
    cases hd : d j with
    | none => rfl
    | some k => have := h2 k hd; cases this
  · rw [hf] at h1 h2
    exact .inr ⟨i, k, h1, h2, h3⟩
def old (ttl now : Int) (k : Kw) : Bool := decide (left now k.at_ ≤ ttl)
def all (d : Ts) (ttl now : Int) : List Kw := (row d).filter (old ttl now)
theorem get_row (h : Inv d) : (fnd (all d ttl now) to = -1 ∧ get d ttl to now = (zeroK, false)) ∨ ∃ (i : Nat) (k : Kw), fnd (all d ttl now) to = i ∧ (all d ttl now)[i]? = some k ∧ get d ttl to now = (k, true) := by
  by_cases hh : has to = true
  · have ht := has_iff.1 hh
    obtain ⟨j, rfl⟩ : ∃ j : Nat, to = (j : Int) := ⟨to.toNat, by omega⟩
    have hjn : ((j : Int)).toNat = j := by simp
    rcases fnd_row (p := old ttl now) h (show j < 8 from by omega) with ⟨h1, h2⟩ | ⟨i, k, h1, h2, h3, h4⟩
    · refine .inl ⟨h1, ?_⟩
      cases hd : d j with
      | none => exact get_none (by rw [hjn]; exact hd)
      | some k => exact get_old (by rw [hjn]; exact hd) (of_decide_eq_false (h2 k hd))
    · exact .inr ⟨i, k, h1, h2, get_yes hh (by rw [hjn]; exact h3) (of_decide_eq_true h4)⟩
  · refine .inl ⟨fnd_no fun j x hx hxt => ?_, get_out (by simpa using hh)⟩
    have hm := (List.mem_filter.1 (List.mem_of_getElem? hx)).1
    obtain ⟨j', hj', hk⟩ := mem_rowN.1 hm
    have := h j' x hj' hk
    exact hh (has_iff.2 (by omega))
/-- All that is known, by numbers. -/
def allK (l : List Kw) (ttl now : Int) (k : Nat) : List Kw := (l.take k).filter (old ttl now)
theorem allK_yes {x : Kw} (hx : l[m]? = some x) (h : left now x.at_ ≤ ttl) : allK l ttl now (m + 1) = allK l ttl now m ++ [x] := by
  unfold allK; rw [List.take_add_one, hx, List.filter_append]; simp [old, h]
theorem allK_no {x : Kw} (hx : l[m]? = some x) (h : ¬ left now x.at_ ≤ ttl) : allK l ttl now (m + 1) = allK l ttl now m := by
  unfold allK; rw [List.take_add_one, hx, List.filter_append]; simp [old, h]
theorem allK_all (h : l.length ≤ m) : allK l ttl now m = l.filter (old ttl now) := by unfold allK; rw [List.take_of_length_le h]
/-- One more place of the row behind what was told. -/
theorem upd_at {x : Kw} (h : (n : Int) = to) : upd d to x n = some x := if_pos h
theorem upd_ne {x : Kw} (h : ¬ (n : Int) = to) : upd d to x n = d n := if_neg h
end
/-! ### Events -/
section
variable {s to ttl now id n lv : Int} {l f : List Ev} {k a b : Nat} {e v : Ev} {d : Ts}
def stepT (d : Ts) (v : Ev) : Ts := if v.kind = 11 then nil else if v.kind = 8 then (lrn d v.a v.b v.id v.tick).1 else d
def tabK (f : List Ev) (k : Nat) : Ts := (f.take k).foldl stepT nil
theorem tabK_next (he : f[k]? = some e) : tabK f (k + 1) = stepT (tabK f k) e := by unfold tabK; rw [List.take_add_one, he, List.foldl_append]; rfl
theorem step_clear (h : e.kind = 11) : stepT d e = nil := if_pos h
theorem step_learn (h1 : ¬ e.kind = 11) (h : e.kind = 8) : stepT d e = (lrn d e.a e.b e.id e.tick).1 := by unfold stepT; rw [if_neg h1, if_pos h]
theorem step_none (h1 : ¬ e.kind = 11) (h : ¬ e.kind = 8) : stepT d e = d := by unfold stepT; rw [if_neg h1, if_neg h]
theorem tabK_inv (f : List Ev) : ∀ k, Inv (tabK f k) := by
  intro k
  unfold tabK
  have : ∀ (g : List Ev) (d : Ts), Inv d → Inv (g.foldl stepT d) := by
    intro g
    induction g with
    | nil => intro d h; exact h
    | cons v g ih =>
      intro d h
      rw [List.foldl_cons]
      refine ih _ ?_
      unfold stepT
      split
      · exact Inv.nil
      · split
        · exact h.lrn
        · exact h
  exact this _ _ Inv.nil
/-- The same, by the places of all events. -/
def tabS (s : Int) (l : List Ev) (k : Nat) : Ts := ((l.take k).filter fun e => decide (e.s = s)).foldl stepT nil
theorem tabS_yes (he : l[k]? = some e) (hs : e.s = s) : tabS s l (k + 1) = stepT (tabS s l k) e := by unfold tabS; rw [List.take_add_one, he, List.filter_append, List.foldl_append]; simp [hs]
theorem tabS_no (he : l[k]? = some e) (hs : ¬ e.s = s) : tabS s l (k + 1) = tabS s l k := by unfold tabS; rw [List.take_add_one, he, List.filter_append, List.foldl_append]; simp [hs]
theorem tabS_inv : Inv (tabS s l k) := by
  have := tabK_inv ((l.take k).filter fun e => decide (e.s = s)) ((l.take k).filter fun e => decide (e.s = s)).length
  unfold tabK at this; rw [List.take_length] at this; exact this
def tab (s : Int) (l : List Ev) : Ts := (Mono.of s l).foldl stepT nil
theorem tabK_all (h : (Mono.of s l).length ≤ k) : tabK (Mono.of s l) k = tab s l := by unfold tabK tab; rw [List.take_of_length_le h]
theorem tabS_all (h : l.length ≤ k) : tabS s l k = tab s l := by unfold tabS tab Mono.of; rw [List.take_of_length_le h]
def bad (ttl : Int) : Bool := decide (ttl < 0) || decide (1099511627776 < ttl)
def told (s to ttl now : Int) (l : List Ev) : Kw × Bool := if bad ttl = true then (zeroK, false) else get (tab s l) ttl to now
theorem told_bad (h : ttl < 0 ∨ 1099511627776 < ttl) : told s to ttl now l = (zeroK, false) := if_pos (by simp [bad]; omega)
theorem told_good (h : ¬ (ttl < 0 ∨ 1099511627776 < ttl)) : told s to ttl now l = get (tab s l) ttl to now := if_neg (by simp [bad]; omega)
theorem told_bad' (h : bad ttl = true) : told s to ttl now l = (zeroK, false) := if_pos h
theorem told_good' (h : bad ttl = false) : told s to ttl now l = get (tab s l) ttl to now := if_neg (by simp [h])
/-- The thresholds that a service had. -/
def isP (v : Ev) : Bool := decide (v.kind = 9) || decide (v.kind = 11)
def pubE (s : Int) (v : Ev) : Kw := ⟨s, v.a, v.id, v.tick⟩
def pubK (s n : Int) (f : List Ev) (k : Nat) : List Kw := ⟨s, n, 1, 0⟩ :: ((f.take k).filter isP).map (pubE s)
theorem pubK_yes (he : f[k]? = some e) (h : e.kind = 9 ∨ e.kind = 11) : pubK s n f (k + 1) = pubK s n f k ++ [pubE s e] := by
  have : isP e = true := by simpa [isP] using h
  unfold pubK; rw [List.take_add_one, he, List.filter_append]; simp [this]
theorem pubK_no (he : f[k]? = some e) (h : ¬ (e.kind = 9 ∨ e.kind = 11)) : pubK s n f (k + 1) = pubK s n f k := by
  have : isP e = false := by cases hp : isP e with
    | false => rfl
    | true => exact absurd (by simpa [isP] using hp) h
  unfold pubK; rw [List.take_add_one, he, List.filter_append]; simp [this]
theorem pubK_len : (pubK s n f k).length ≤ k + 1 := by
  unfold pubK
  simp only [List.length_cons, List.length_map]
  have h1 := List.length_filter_le isP (f.take k)
  rw [List.length_take] at h1; omega
def pub (s n : Int) (l : List Ev) : List Kw := pubK s n (Mono.of s l) (Mono.of s l).length
theorem pubK_all (h : ¬ k < (Mono.of s l).length) (h2 : k ≤ (Mono.of s l).length) : pubK s n (Mono.of s l) k = pub s n l := by
  have : k = (Mono.of s l).length := by omega
  subst this; rfl
def pubS (s n : Int) (l : List Ev) (k : Nat) : List Kw := ⟨s, n, 1, 0⟩ :: (((l.take k).filter fun e => decide (e.s = s)).filter isP).map (pubE s)
theorem pubS_yes (he : l[k]? = some e) (hs : e.s = s) (h : e.kind = 9 ∨ e.kind = 11) : pubS s n l (k + 1) = pubS s n l k ++ [pubE s e] := by
  have : isP e = true := by simpa [isP] using h
  unfold pubS; rw [List.take_add_one, he, List.filter_append, List.filter_append]; simp [hs, this]
theorem pubS_no (he : l[k]? = some e) (h : ¬ (e.s = s ∧ (e.kind = 9 ∨ e.kind = 11))) : pubS s n l (k + 1) = pubS s n l k := by
  unfold pubS; rw [List.take_add_one, he, List.filter_append, List.filter_append]
  by_cases hs : e.s = s
  · have : isP e = false := by cases hp : isP e with
      | false => rfl
      | true => exact absurd ⟨hs, by simpa [isP] using hp⟩ h
    simp [hs, this]
  · simp [hs]
theorem pubS_len : (pubS s n l k).length ≤ k + 1 := by
  unfold pubS
  simp only [List.length_cons, List.length_map]
  have h1 := List.length_filter_le isP ((l.take k).filter fun e => decide (e.s = s))
  have h2 := List.length_filter_le (fun e : Ev => decide (e.s = s)) (l.take k)
  rw [List.length_take] at h2; omega
theorem pubS_all (h : ¬ k < l.length) : pubS s n l k = pub s n l := by unfold pubS pub pubK Mono.of; rw [List.take_of_length_le (by omega), List.take_length]
theorem pub_len : (pub s n l).length ≤ l.length + 1 := by have h1 := pubK_len (s := s) (n := n) (f := Mono.of s l) (k := (Mono.of s l).length); have h2 := Mono.of_len s l; unfold pub; omega
/-- What was asked last. -/
def isA (s id : Int) (v : Ev) : Bool := decide (v.kind = 1) && decide (v.s = s) && decide (v.id = id)
def ask (s id : Int) (l : List Ev) : Int × Bool := match l.reverse.find? (isA s id) with
  | some v => (v.a, true)
  | none => (0, false)
def askNo (l : List Ev) (s id : Int) (m : Nat) : Prop := m ≤ l.length ∧ ∀ (j : Nat) x, j < m → l.reverse[j]? = some x → isA s id x = false
theorem askNo_zero : askNo l s id 0 := ⟨Nat.zero_le _, fun j _ h => absurd h (Nat.not_lt_zero j)⟩
theorem isA_no (h : ¬ (e.kind = 1 ∧ e.s = s ∧ e.id = id)) : isA s id e = false := by
  cases hp : isA s id e with
  | false => rfl
  | true => simp only [isA, Bool.and_eq_true, decide_eq_true_eq] at hp; exact absurd ⟨hp.1.1, hp.1.2, hp.2⟩ h
theorem askNo_next {m : Nat} (h : askNo l s id m) (he : l.reverse[m]? = some e) (hk : ¬ (e.kind = 1 ∧ e.s = s ∧ e.id = id)) : askNo l s id (m + 1) :=
  ⟨by have := (List.getElem?_eq_some_iff.1 he).1; rw [List.length_reverse] at this; omega, none_step h.2 he (isA_no hk)⟩
theorem askNo_hit {m : Nat} (h : askNo l s id m) (he : l.reverse[m]? = some e) (h1 : e.kind = 1) (h2 : e.s = s) (h3 : e.id = id) : ask s id l = (e.a, true) := by
  unfold ask; rw [find_at h.2 he (by simp [isA, h1, h2, h3])]
theorem askNo_end (h : askNo l s id l.length) : ask s id l = (0, false) := by
  unfold ask; rw [find_no h.2 (by simp)]
theorem ask_zero : ask s id [] = (0, false) := rfl
theorem ask_add : ask s id (l ++ [v]) = if isA s id v then (v.a, true) else ask s id l := by
  unfold ask; rw [List.reverse_append]
  simp only [List.reverse_cons, List.reverse_nil, List.nil_append, List.singleton_append, List.find?_cons]
  cases isA s id v <;> rfl
theorem ask_yes (he : l[k]? = some e) (h1 : e.kind = 1) (h2 : e.s = s) (h3 : e.id = id) : ask s id (l.take (k + 1)) = (e.a, true) := by
  rw [List.take_add_one, he]; show ask s id (l.take k ++ [e]) = _; rw [ask_add, if_pos (by simp [isA, h1, h2, h3])]
theorem ask_no (he : l[k]? = some e) (h : ¬ (e.kind = 1 ∧ e.s = s ∧ e.id = id)) : ask s id (l.take (k + 1)) = ask s id (l.take k) := by
  rw [List.take_add_one, he]; show ask s id (l.take k ++ [e]) = _; rw [ask_add, if_neg (by simp [isA_no h])]
/-- Is a cut wrong, by what came ahead? -/
def passes (n t : Int) : Bool := decide (0 ≤ n) && decide (n < t)
def hasP (x : Kw) (l : List Kw) : Bool := l.any fun k => decide (k.thr = x.thr) && decide (k.ep = x.ep)
def inS (sv : List Svc) (v : Ev) : Prop := ¬ (v.s < 0 ∨ (sv.length : Int) ≤ v.s ∨ v.a < 0 ∨ (sv.length : Int) ≤ v.a)
instance {sv : List Svc} {v : Ev} : Decidable (inS sv v) := by unfold inS; infer_instance
def tOf (sv : List Svc) (v : Ev) : Int := match sv[v.s.toNat]? with
  | some x => x.ttl
  | none => 0
def bad2 (sv : List Svc) (v : Ev) (l : List Ev) : Bool := !(ask v.s v.id l).2 || !(told v.s v.a (tOf sv v) v.tick l).2 || passes (ask v.s v.id l).1 (told v.s v.a (tOf sv v) v.tick l).1.thr
def wrong (b c : Int) (sv : List Svc) (v : Ev) (l : List Ev) : Bool := if inS sv v then (bad2 sv v l || !hasP (told v.s v.a (tOf sv v) v.tick l).1 (pub v.a (b * c) l)) else true
theorem wrong_out {b c : Int} {sv : List Svc} (h : v.s < 0 ∨ (sv.length : Int) ≤ v.s ∨ v.a < 0 ∨ (sv.length : Int) ≤ v.a) : wrong b c sv v l = true := if_neg fun hn => hn h
theorem wrong_in {b c : Int} {sv : List Svc} (h : ¬ (v.s < 0 ∨ (sv.length : Int) ≤ v.s ∨ v.a < 0 ∨ (sv.length : Int) ≤ v.a)) : wrong b c sv v l = (bad2 sv v l || !hasP (told v.s v.a (tOf sv v) v.tick l).1 (pub v.a (b * c) l)) := if_pos h
theorem tOf_at {sv : List Svc} {x : Svc} (h : sv[v.s.toNat]? = some x) : tOf sv v = x.ttl := by unfold tOf; rw [h]
def isC (v : Ev) : Bool := decide (v.kind = 6) && decide (v.code = 8)
/-- The first wrong cut. -/
def wrAt (b c : Int) (sv : List Svc) (l : List Ev) (i : Nat) : Bool := match l[i]? with
  | some v => isC v && wrong b c sv v (l.take i)
  | none => false
def wrs (b c : Int) (sv : List Svc) (l : List Ev) : Int × Bool := match (List.range l.length).find? (wrAt b c sv l) with
  | some i => (i, true)
  | none => (0, false)
theorem wrs_hit {b c : Int} {sv : List Svc} (hn : ∀ i, i < k → wrAt b c sv l i = false) (hk : k < l.length) (h : wrAt b c sv l k = true) : wrs b c sv l = ((k : Int), true) := by
  have : (List.range l.length).find? (wrAt b c sv l) = some k := find_at (k := k) (fun j x hj hx => by
    obtain ⟨hl, he⟩ := List.getElem?_eq_some_iff.1 hx
    rw [List.getElem_range] at he; subst he; exact hn j hj) (by rw [List.getElem?_range hk]) h
  unfold wrs; rw [this]
theorem wrs_none {b c : Int} {sv : List Svc} (hn : ∀ i, i < k → wrAt b c sv l i = false) (hk : l.length ≤ k) : wrs b c sv l = (0, false) := by
  have : (List.range l.length).find? (wrAt b c sv l) = none := find_no (k := k) (fun j x hj hx => by
    obtain ⟨hl, he⟩ := List.getElem?_eq_some_iff.1 hx
    rw [List.getElem_range] at he; subst he; exact hn j hj) (by rw [List.length_range]; exact hk)
  unfold wrs; rw [this]
theorem wrAt_is {b c : Int} {sv : List Svc} (he : l[k]? = some e) {a : Nat} (ha : a = k) : wrAt b c sv l k = (isC e && wrong b c sv e (l.take a)) := by subst ha; unfold wrAt; rw [he]
theorem wr_next {b c : Int} {sv : List Svc} (hn : ∀ i, i < k → wrAt b c sv l i = false) (h : wrAt b c sv l k = false) : ∀ i, i < k + 1 → wrAt b c sv l i = false := fun i hi => by
  rcases Nat.lt_or_ge i k with h1 | h1
  · exact hn i h1
  · have : i = k := by omega
    subst this; exact h
/-- How many cuts there are. -/
def cutsK (f : List Ev) (k : Nat) : Nat := (f.take k).countP isC
theorem cutsK_yes (he : f[k]? = some e) (h1 : e.kind = 6) (h2 : e.code = 8) : cutsK f (k + 1) = cutsK f k + 1 := by
  unfold cutsK; rw [List.take_add_one, he, List.countP_append]; simp [isC, h1, h2]
theorem cutsK_no (he : f[k]? = some e) (h : ¬ (e.kind = 6 ∧ e.code = 8)) : cutsK f (k + 1) = cutsK f k := by
  have : isC e = false := by cases hp : isC e with
    | false => rfl
    | true => simp only [isC, Bool.and_eq_true, decide_eq_true_eq] at hp; exact absurd hp h
  unfold cutsK; rw [List.take_add_one, he, List.countP_append]; simp [this]
theorem cutsK_le : cutsK f k ≤ k := by unfold cutsK; exact Nat.le_trans List.countP_le_length (by rw [List.length_take]; omega)
def cuts (s : Int) (l : List Ev) : Nat := (Mono.of s l).countP isC
theorem cutsK_all (h : (Mono.of s l).length ≤ k) : cutsK (Mono.of s l) k = cuts s l := by unfold cutsK cuts; rw [List.take_of_length_le h]
def cutsS (s : Int) (l : List Ev) (k : Nat) : Nat := ((l.take k).filter fun e => decide (e.s = s)).countP isC
theorem cutsS_yes (he : l[k]? = some e) (h0 : e.s = s) (h1 : e.kind = 6) (h2 : e.code = 8) : cutsS s l (k + 1) = cutsS s l k + 1 := by
  unfold cutsS; rw [List.take_add_one, he, List.filter_append, List.countP_append]; simp [h0, isC, h1, h2]
theorem cutsS_no (he : l[k]? = some e) (h : ¬ (e.s = s ∧ e.kind = 6 ∧ e.code = 8)) : cutsS s l (k + 1) = cutsS s l k := by
  unfold cutsS; rw [List.take_add_one, he, List.filter_append, List.countP_append]
  by_cases hs : e.s = s
  · have : isC e = false := by cases hp : isC e with
      | false => rfl
      | true => simp only [isC, Bool.and_eq_true, decide_eq_true_eq] at hp; exact absurd ⟨hs, hp⟩ h
    simp [hs, this]
  · simp [hs]
theorem cutsS_le : cutsS s l k ≤ k := by
  unfold cutsS
  have h1 := List.countP_le_length (p := isC) (l := (l.take k).filter fun e => decide (e.s = s))
  have h2 := List.length_filter_le (fun e : Ev => decide (e.s = s)) (l.take k)
  rw [List.length_take] at h2; omega
theorem cutsS_all (h : l.length ≤ k) : cutsS s l k = cuts s l := by unfold cutsS cuts Mono.of; rw [List.take_of_length_le h]
theorem cutsK_c (he : f[k]? = some e) (h : isC e = true) : cutsK f (k + 1) = cutsK f k + 1 := by
  simp only [isC, Bool.and_eq_true, decide_eq_true_eq] at h
  exact cutsK_yes he h.1 h.2
theorem cutsK_nc (he : f[k]? = some e) (h : isC e = false) : cutsK f (k + 1) = cutsK f k := cutsK_no he fun hn => by simp [isC, hn.1, hn.2] at h
theorem mul_bnd {b c : Int} (hb : 0 ≤ b ∧ b ≤ 7) (hc : 0 ≤ c ∧ c ≤ 15) : 0 ≤ b * c ∧ b * c ≤ 105 :=
  ⟨Int.mul_nonneg hb.1 hc.1, Int.le_trans (Int.mul_le_mul_of_nonneg_right hb.2 hc.1) (by omega)⟩
def idx {α : Type} (p : α → Bool) (l : List α) : Int := match l.findIdx? p with | some k => k | none => -1
theorem idx_nn {α : Type} {p : α → Bool} {l : List α} : decide (0 ≤ idx p l) = l.any p := by
  unfold idx
  cases h : l.findIdx? p with
  | none =>
    rw [List.findIdx?_eq_none_iff] at h
    have : l.any p = false := List.any_eq_false.2 fun x hx => by simpa using h x hx
    rw [this]; decide
  | some k =>
    obtain ⟨hk, hp, _⟩ := List.findIdx?_eq_some_iff_getElem.1 h
    have : l.any p = true := List.any_eq_true.2 ⟨l[k], List.getElem_mem hk, hp⟩
    rw [this, decide_eq_true_eq]
    exact Int.natCast_nonneg k
theorem idx_no {α : Type} {p : α → Bool} {l : List α} {k : Nat} (hn : ∀ j x, j < k → l[j]? = some x → p x = false) (hk : ¬ k < l.length) : idx p l = -1 := by
  unfold idx
  rw [List.findIdx?_eq_none_iff.2 fun x hx => by
    obtain ⟨j, hj⟩ := List.mem_iff_getElem?.1 hx
    have hlt := (List.getElem?_eq_some_iff.1 hj).1
    simp [hn j x (by omega) hj]]
theorem idx_at {α : Type} {p : α → Bool} {l : List α} {k : Nat} {e : α} (hn : ∀ j x, j < k → l[j]? = some x → p x = false) (he : l[k]? = some e) (h : p e = true) : idx p l = k := by
  unfold idx
  obtain ⟨hlt, rfl⟩ := List.getElem?_eq_some_iff.1 he
  rw [List.findIdx?_eq_some_iff_getElem.2 ⟨hlt, h, fun j hj => by
    have := hn j l[j] hj (List.getElem?_eq_getElem (by omega))
    simp [this]⟩]
theorem list7 {l : List Int} {a b c d e f g : Int} (h : l.length = 7) (h0 : l[0]? = some a) (h1 : l[1]? = some b) (h2 : l[2]? = some c) (h3 : l[3]? = some d) (h4 : l[4]? = some e) (h5 : l[5]? = some f) (h6 : l[6]? = some g) : l = [a, b, c, d, e, f, g] := by
  match l, h with
  | [_, _, _, _, _, _, _], _ => simp at h0 h1 h2 h3 h4 h5 h6; simp [h0, h1, h2, h3, h4, h5, h6]
def evA : Ev := ⟨9, 0, 1, 5, 0, 3, 0⟩
def evB : Ev := ⟨8, 0, 0, 5, 0, 1, 3⟩
def evC : Ev := ⟨1, 0, 0, 9, 0, 3, 0⟩
def evD : Ev := ⟨6, 0, 0, 9, 8, 1, 0⟩
theorem two {o : List Svc} (h : o.length = 2) (ht : ∀ x ∈ o, x.ttl = 20) : ∃ x y, o = [x, y] ∧ x.ttl = 20 ∧ y.ttl = 20 := by
  rcases o with _ | ⟨x, _ | ⟨y, _ | ⟨z, o⟩⟩⟩
  · simp at h
  · simp at h
  · exact ⟨x, y, rfl, ht x (by simp), ht y (by simp)⟩
  · simp at h
theorem awk1 {o : List Svc} (h : o.length = 2) (ht : ∀ x ∈ o, x.ttl = 20) : wrs 2 4 o [evA, evB, evC, evD] = (0, false) := by
  obtain ⟨⟨_, _, _, _, _, _, _, _, _, _, _, _, _, _, _⟩, y, rfl, h1, _⟩ := two h ht
  cases h1
  kernel_rfl
theorem awk2 {o : List Svc} (h : o.length = 2) (ht : ∀ x ∈ o, x.ttl = 20) : wrs 2 4 o [evB, evC, evD] = (2, true) := by
  obtain ⟨⟨_, _, _, _, _, _, _, _, _, _, _, _, _, _, _⟩, y, rfl, h1, _⟩ := two h ht
  cases h1
  kernel_rfl
theorem ttl_add {o : List Svc} {x : Svc} {k : Nat} (h : o.length = k) (ht : ∀ x ∈ o, x.ttl = 20) (hx : x.ttl = 20) : (o ++ [x]).length = k + 1 ∧ ∀ z ∈ o ++ [x], z.ttl = 20 := by
  refine ⟨by simp [h], fun y hy => ?_⟩
  rcases List.mem_append.1 hy with h1 | h1
  · exact ht y h1
  · have h2 := List.mem_singleton.1 h1
    subst h2; exact hx
/-! ### One of those that were there -/
theorem hasP_yes {x q : Kw} {l : List Kw} {k : Nat} (hq : l[k]? = some q) (h1 : q.thr = x.thr) (h2 : q.ep = x.ep) : hasP x l = true := List.any_eq_true.2 ⟨q, List.mem_of_getElem? hq, by simp [h1, h2]⟩
theorem hasP_no {x : Kw} {l : List Kw} {k : Nat} (hn : ∀ j q, j < k → l[j]? = some q → ¬ (q.thr = x.thr ∧ q.ep = x.ep)) (hk : l.length ≤ k) : hasP x l = false := by
  refine List.any_eq_false.2 fun q hq => ?_
  obtain ⟨j, hj⟩ := List.mem_iff_getElem?.1 hq
  have := hn j q (by have := (List.getElem?_eq_some_iff.1 hj).1; omega) hj
  simpa using this
end
end Go.LK.Sh
