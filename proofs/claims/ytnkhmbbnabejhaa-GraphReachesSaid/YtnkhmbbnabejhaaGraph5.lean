/-
  The plain law of graphs, for the statements: the services out of lists of calls; places in the row; who is wanted.
-/
import Derived.Test.YtnkhmbbnabejhaaGraphA
import Derived.Test.YtnkhmbbnabejhaaLk35
namespace Go.LK
open Go Go.RowKit
def Lz.row (T : Nat) (x : Lz) : Sp := LK.row x.v T 1 (x.l.map encZ)
theorem lz_ros {T : Nat} {l : List Lz} : ∀ w, (bun (l.map (Lz.row T))).holds w → (ros (l.map Lz.rd)).holds w ∧ ∀ k ∈ (ros (l.map Lz.rd)).foot, k ∈ (bun (l.map (Lz.row T))).foot := bun_ros fun _ _ => row_rd
theorem sg_into {T : Nat} {V : Value} {u : List Int} {l : List Sg} {R : List Sp} (h : V.oneCell' = true) : Re (row V T 4 (u.map encT) :: bun (l.map (Sg.row T)) :: R) (bun ((l ++ [(⟨V, u, h⟩ : Sg)]).map (Sg.row T)) :: R) := by
  rw [List.map_append]; exact Re.into
theorem O.re {c : Cx} {k : List It} {E : Env} {L L' : List Sp} {ops : Array Oper} {rest : List Oper} (h : Re L L') (hj : O c ops rest k E L') : O c ops rest k E L := fun ok a w ha hs => hj ok a w ha (h _ _ _ hs)
end Go.LK
namespace Go.LK.Gr
open Go Go.LK
def ten (x : Lz) : List Int := x.l.take 10
section
variable {cs : List Lz} {l : List Sg} {e1 : Lz} {u : List Int} {k q : Nat} {V : Value} {hV : V.oneCell' = true}
theorem gOf_next (hst : gOf l = (cs.take k).map ten) (he : cs[k]? = some e1) (hu : u = e1.l.take q) (hq : q ≤ 10) (hq2 : q = 10 ∨ e1.l.length ≤ q) : gOf (l ++ [⟨V, u, hV⟩]) = (cs.take (k + 1)).map ten := by
  unfold gOf at hst ⊢
  rw [List.map_append, hst, List.take_add_one, he, List.map_append]
  congr 1
  show [u] = [ten e1]
  rw [hu]; unfold ten
  rcases hq2 with h | h
  · rw [h]
  · rw [List.take_of_length_le h, List.take_of_length_le (by omega)]
theorem of_small (hg : gOf l = cs.map ten) (hc : ¬ 8 < cs.length) : l.length ≤ 8 ∧ ∀ s ∈ l, s.cl.length ≤ 1000 := by
  refine ⟨?_, fun s hs => ?_⟩
  · have := congrArg List.length hg
    simp only [gOf, List.length_map] at this; omega
  · have : s.cl ∈ gOf l := List.mem_map.2 ⟨s, hs, rfl⟩
    rw [hg] at this
    obtain ⟨x, _, hx⟩ := List.mem_map.1 this
    rw [← hx]; unfold ten; rw [List.length_take]; omega
end
section
variable {g : List (List Int)} {i j k q n p a b m : Nat} {o : List Nat} {x x1 x2 t y : Int} {w : List Int} {mb mb2 : List Bool} {r : Bool}
theorem acyc (h : ¬ loops g ≠ 0) : ∀ i, ¬ Path (e g) i i := fun i hp => by
  obtain ⟨o, ho⟩ := loops_ord h
  exact no_round ho i hp
/-! ### Places -/
def atK (g : List (List Int)) (o : List Nat) (k : Nat) : List Int := rowN g.length fun j => if j ∈ o.take k then (o.idxOf j : Int) + 1 else 0
theorem atK_len : (atK g o k).length = g.length := rowN_len
theorem atK_zero : List.replicate g.length 0 = atK g o 0 := by
  refine (List.eq_replicate_iff.2 ⟨by simp [atK, rowN], fun b hb => ?_⟩).symm
  unfold atK rowN at hb
  obtain ⟨j, _, rfl⟩ := List.mem_map.1 hb
  simp
theorem ordL_at (ho : ordN g g.length = some o) (he : (ordL g)[k]? = some x) : ∃ p : Nat, x = (p : Int) ∧ o[k]? = some p ∧ p < g.length ∧ k < g.length := by
  rw [ordL_yes ho, List.getElem?_map] at he
  cases hp : o[k]? with
  | none => rw [hp] at he; cases he
  | some p =>
    rw [hp] at he
    have := (List.getElem?_eq_some_iff.1 hp).1
    have := ord_len ho
    exact ⟨p, by cases he; rfl, rfl, ord_lt ho p (List.mem_of_getElem? hp), by omega⟩
theorem idx_at (ho : ordN g n = some o) (hp : o[k]? = some p) : o.idxOf p = k := by
  obtain ⟨d, e⟩ := List.getElem?_eq_some_iff.1 hp
  have := (ord_nodup ho).idxOf_getElem k d
  rwa [e] at this
theorem not_take (ho : ordN g n = some o) (hp : o[k]? = some p) : p ∉ o.take k := fun h => by
  obtain ⟨a, ha⟩ := List.mem_iff_getElem?.1 h
  rw [List.getElem?_take] at ha
  split at ha
  · have h1 := idx_at ho hp
    have h2 := idx_at ho ha
    omega
  · cases ha
theorem atK_at (ho : ordN g g.length = some o) (hp : o[k]? = some p) (hw : w = atK g o k) (hx : w[p]? = some x) : x = 0 := by
  subst hw
  unfold atK at hx
  rw [rowN_get (ord_lt ho p (List.mem_of_getElem? hp)), if_neg (not_take ho hp)] at hx
  exact (Option.some.inj hx).symm
theorem atK_next (ho : ordN g g.length = some o) (hp : o[k]? = some p) (hw : w = atK g o k) (hx : w[p]? = some x) : w.set p (x + 1 + (k : Int)) = atK g o (k + 1) := by
  have h0 := atK_at ho hp hw hx
  subst hw; subst h0
  unfold atK
  rw [rowN_set]
  refine rowN_ext fun j _ => ?_
  rw [List.take_add_one, hp]
  by_cases hj : j = p
  · subst hj
    simp [idx_at ho hp]; omega
  · simp [hj]
theorem at_all (ho : ordN g g.length = some o) (hw : w = atK g o k) (hk : o.length ≤ k) (hx : w[i]? = some x) : ∃ a : Nat, x = (a : Int) + 1 ∧ o[a]? = some i ∧ a < g.length := by
  subst hw
  have hi := (List.getElem?_eq_some_iff.1 hx).1
  rw [atK_len] at hi
  obtain ⟨a, ha⟩ := List.mem_iff_getElem?.1 (ord_all ho i hi)
  unfold atK at hx
  rw [rowN_get hi, List.take_of_length_le hk, if_pos (ord_all ho i hi), idx_at ho ha] at hx
  have := (List.getElem?_eq_some_iff.1 ha).1
  have := ord_len ho
  exact ⟨a, (Option.some.inj hx).symm, ha, by omega⟩
theorem ordL_is (ho : ordN g g.length = some o) (ha : o[a]? = some i) (hk : k = a) (hx : (ordL g)[k]? = some y) : y = (i : Int) := by
  subst hk
  rw [ordL_yes ho, List.getElem?_map, ha] at hx
  exact (Option.some.inj hx).symm
theorem at_lt (ho : ordN g g.length = some o) (hw : w = atK g o k) (hk : o.length ≤ k) (he : e g i j = true) (h1 : w[i]? = some x1) (h2 : w[j]? = some x2) : x1 < x2 := by
  obtain ⟨a, rfl, ha, _⟩ := at_all ho hw hk h1
  obtain ⟨b, rfl, hb, _⟩ := at_all ho hw hk h2
  obtain ⟨c, hc, hjc⟩ := ord_behind ho ha he (List.mem_of_getElem? hb)
  have h3 := idx_at ho hb
  have h4 := idx_at ho hjc
  omega
theorem depI_nat (h : ¬ loops g ≠ 0) (hi : i < g.length) : depI g (i : Int) = (dep g i, 0) := by
  rw [depI_in (by omega) (by omega)]; simp
theorem ordL_full (h : ordN g g.length = some o) : (ordL g).length = g.length := (ordL_length h).trans (ord_len h)
/-! ### Whom one reaches by those whom one calls -/
structure WI (g : List (List Int)) (i k : Nat) (mb : List Bool) : Prop where
  len : mb.length = g.length
  iff : ∀ j, mb[j]? = some true ↔ ∃ c, c < k ∧ e g i c = true ∧ (j = c ∨ Path (e g) c j)
structure WQ (g : List (List Int)) (i k : Nat) (mb : List Bool) (q : Nat) : Prop where
  len : mb.length = g.length
  iff : ∀ j, mb[j]? = some true ↔ (∃ c, c < k ∧ e g i c = true ∧ (j = c ∨ Path (e g) c j)) ∨ j = k ∨ (j : Int) ∈ (reachI g (k : Int)).take q
theorem WI.zero : WI g i 0 (List.replicate g.length false) := ⟨by simp, fun j => by
  constructor
  · intro h
    rw [List.getElem?_replicate] at h
    split at h <;> cases h
  · rintro ⟨c, hc, _⟩; omega⟩
theorem WI.skip (h : WI g i k mb) (he : e g i k = false) : WI g i (k + 1) mb := ⟨h.len, fun j => by
  rw [h.iff]
  constructor
  · rintro ⟨c, hc, h2⟩; exact ⟨c, by omega, h2⟩
  · rintro ⟨c, hc, h2, h3⟩
    refine ⟨c, ?_, h2, h3⟩
    rcases Nat.lt_or_ge c k with h4 | h4
    · exact h4
    · have : c = k := by omega
      subst this; rw [he] at h2; cases h2⟩
theorem set_true (j p : Nat) (hp : p < mb.length) : (mb.set p true)[j]? = some true ↔ mb[j]? = some true ∨ j = p := by
  rw [List.getElem?_set]
  by_cases h : p = j
  · subst h; simp [hp]
  · simp [h]; exact fun h2 => absurd h2.symm h
theorem WI.start (h : WI g i k mb) (hk : k < g.length) : WQ g i k (mb.set k true) 0 := ⟨by rw [List.length_set]; exact h.len, fun j => by
  rw [set_true j k (by rw [h.len]; exact hk), h.iff]; simp⟩
theorem WQ.next (h : WQ g i k mb q) (hq : (reachI g (k : Int))[q]? = some (p : Int)) (hp : p < g.length) : WQ g i k (mb.set p true) (q + 1) := ⟨by rw [List.length_set]; exact h.len, fun j => by
  rw [set_true j p (by rw [h.len]; exact hp), h.iff, List.take_add_one, hq, List.mem_append]
  simp only [Option.toList, List.mem_singleton, Int.ofNat_inj]
  constructor
  · rintro ((h1 | h1 | h1) | h1)
    · exact .inl h1
    · exact .inr (.inl h1)
    · exact .inr (.inr (.inl h1))
    · exact .inr (.inr (.inr (by omega)))
  · rintro (h1 | h1 | h1 | h1)
    · exact .inl (.inl h1)
    · exact .inl (.inr (.inl h1))
    · exact .inl (.inr (.inr h1))
    · exact .inr (by omega)⟩
theorem WQ.done (h : WQ g i k mb q) (he : e g i k = true) (hk : k < g.length) (hq : (reachI g (k : Int)).length ≤ q) : WI g i (k + 1) mb := ⟨h.len, fun j => by
  have hr : (j : Int) ∈ reachI g (k : Int) ↔ Path (e g) k j := by
    rw [reachI_nat hk, mem_reachL]
    constructor
    · rintro ⟨a, ha, hp⟩
      have : j = a := by omega
      rw [this]; exact hp
    · exact fun hp => ⟨j, rfl, hp⟩
  rw [h.iff, List.take_of_length_le hq, hr]
  constructor
  · rintro (⟨c, hc, h2⟩ | h1 | h1)
    · exact ⟨c, by omega, h2⟩
    · exact ⟨k, by omega, he, .inl h1⟩
    · exact ⟨k, by omega, he, .inr h1⟩
  · rintro ⟨c, hc, h2, h3⟩
    rcases Nat.lt_or_ge c k with h4 | h4
    · exact .inl ⟨c, h4, h2, h3⟩
    · have : c = k := by omega
      subst this
      rcases h3 with h3 | h3
      · exact .inr (.inl h3)
      · exact .inr (.inr h3)⟩
theorem WI.path (h : WI g i k mb) (hk : g.length ≤ k) : mb[j]? = some true ↔ Path (e g) i j := by
  rw [h.iff]
  constructor
  · rintro ⟨c, _, h2, h3 | h3⟩
    · subst h3; exact .one h2
    · exact .cons h2 h3
  · intro hp
    rcases hp.first with h1 | ⟨c, h1, h2⟩
    · exact ⟨j, by have := (e_lt h1).2; omega, h1, .inl rfl⟩
    · exact ⟨c, by have := (e_lt h1).2; omega, h1, .inr h2⟩
theorem WI.rows (h : WI g i k mb) (hk : g.length ≤ k) (hn : n = g.length) : marked mb n = reachL g i := by
  subst hn
  unfold marked reachL
  congr 1
  refine List.filter_congr fun j hj => ?_
  have hl := h.len
  have hjl : j < mb.length := by rw [hl]; exact List.mem_range.1 hj
  have h1 := h.path (j := j) hk
  rw [List.getElem?_eq_getElem hjl] at h1
  rw [List.getD_eq_getElem?_getD, List.getElem?_eq_getElem hjl]
  have h2 : mb[j] = true ↔ reachP g i j = true := by rw [reachP_iff, ← h1]; simp
  show mb[j] = reachP g i j
  exact Bool.eq_iff_iff.2 h2
theorem reach_el (hk : k < g.length) (hq : (reachI g (k : Int))[q]? = some x) : ∃ p : Nat, x = (p : Int) ∧ p < g.length := by
  rw [reachI_nat hk] at hq
  obtain ⟨p, rfl, hp⟩ := mem_reachL.1 (List.mem_of_getElem? hq)
  exact ⟨p, rfl, (path_lt hp).2⟩
theorem loops_r (h : r = true ↔ ∃ c, c < n ∧ Path (e g) c c) (hn : g.length ≤ n) : (decide (loops g = 11) == r) = true := by
  by_cases h2 : ∃ c, c < n ∧ Path (e g) c c
  · obtain ⟨c, _, hp⟩ := h2
    rw [h.2 ⟨c, by assumption, hp⟩, loops_round hp]; rfl
  · have hr : r = false := by cases r with
      | true => exact absurd (h.1 rfl) h2
      | false => rfl
    rw [hr, loops_none fun i hi hp => h2 ⟨i, by omega, hp⟩]; rfl
theorem round_next {u : Bool} (h : r = true ↔ ∃ c, c < i ∧ Path (e g) c c) (hw : WI g i k mb) (hk : g.length ≤ k) (hu : mb[i]? = some u) (hf : r = false) : (u = true ↔ ∃ c, c < i + 1 ∧ Path (e g) c c) := by
  have h1 := hw.path (j := i) hk
  rw [hu] at h1
  constructor
  · intro h2; exact ⟨i, by omega, h1.1 (by rw [h2])⟩
  · rintro ⟨c, hc, hp⟩
    rcases Nat.lt_or_ge c i with h3 | h3
    · rw [h.2 ⟨c, h3, hp⟩] at hf; cases hf
    · have : c = i := by omega
      subst this
      exact Option.some.inj (h1.2 hp)
theorem round_yes (h : r = true ↔ ∃ c, c < i ∧ Path (e g) c c) (hf : r = true) : (true = true ↔ ∃ c, c < i + 1 ∧ Path (e g) c c) := by
  obtain ⟨c, hc, hp⟩ := h.1 hf
  exact ⟨fun _ => ⟨c, by omega, hp⟩, fun _ => rfl⟩
/-! ### An example -/
theorem awake_ord : ordN [[1, 2], [2], []] 3 = some [0, 1, 2] := by decide
theorem awake_reach : reachI [[1, 2], [2], []] 0 = [1, 2] := by
  refine Jb.up_ext ?_ (by simp [Jb.Up]) fun x => ?_
  · rw [show (0 : Int) = ((0 : Nat) : Int) from rfl, reachI_nat (by decide)]; exact reachL_up
  · rw [mem_reachI]
    have key : ∀ j, Path (e [[1, 2], [2], []]) 0 j → j = 1 ∨ j = 2 := by
      intro j hp
      have hl := (path_lt hp).2
      have hl' : j < 3 := hl
      rcases Nat.eq_zero_or_pos j with h0 | h0
      · subst h0
        exact absurd hp (no_round (o := [0, 1, 2]) awake_ord 0)
      · omega
    constructor
    · rintro ⟨i, j, h1, rfl, hp⟩
      have : i = 0 := by omega
      subst this
      rcases key j hp with h | h <;> subst h <;> simp
    · intro hx
      simp at hx
      rcases hx with h | h <;> subst h
      · exact ⟨0, 1, rfl, rfl, .one (by decide)⟩
      · exact ⟨0, 2, rfl, rfl, .one (by decide)⟩
theorem awake_loop : loops [[1], [0]] = 11 := loops_no (by decide)
theorem awake_order : ordL [[1, 2], [2], []] = [0, 1, 2] := by rw [ordL_yes (o := [0, 1, 2]) awake_ord]; rfl
theorem awake_ok : loops [[1, 2], [2], []] = 0 := loops_yes (o := [0, 1, 2]) awake_ord
theorem awake_dep : depI [[1, 2], [2], []] 0 = (2, 0) := by rw [depI_in (by decide) awake_ok]; rfl
end
end Go.LK.Gr
