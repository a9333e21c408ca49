/-
  Maps whose keys are integers, further: entries' births are told apart, so that a range over them is known; delete, clear, len, lookups of one value.
-/
import Derived.Test.YtnkhmbbnabejhaaLk29
import Derived.Maps.RangeRun
namespace Go.LK
open Go Go.RowKit

section
variable {α : Type}
def getI : List (Int × α) → Int → Option α
  | [], _ => none
  | p :: m, k => if p.1 = k then some p.2 else getI m k
def putI : List (Int × α) → Int → α → List (Int × α)
  | [], k, v => [(k, v)]
  | p :: m, k, v => if p.1 = k then (k, v) :: m else p :: putI m k v
def delI (m : List (Int × α)) (k : Int) : List (Int × α) := m.filter fun p => decide (p.1 ≠ k)
def atI : List (Int × α) → Int → Nat → Option (Nat × α)
  | [], _, _ => none
  | p :: m, k, i => if p.1 = k then some (i, p.2) else atI m k (i + 1)
def keysI (m : List (Int × α)) : List Int := m.map (·.1)
theorem getI_putI (m : List (Int × α)) (k k' : Int) (v : α) : getI (putI m k v) k' = if k = k' then some v else getI m k' := by
  induction m with
  | nil => simp [putI, getI]
  | cons p m ih =>
    simp only [putI]
    by_cases h : p.1 = k
    · rw [if_pos h]; simp only [getI]
      by_cases h2 : k = k'
      · simp [h2]
      · have : ¬ p.1 = k' := fun e => h2 (h.symm.trans e)
        simp [h2, this]
    · rw [if_neg h]; simp only [getI, ih]
      by_cases h2 : k = k'
      · subst h2; simp [h]
      · simp [h2]
theorem getI_delI (m : List (Int × α)) (k k' : Int) : getI (delI m k) k' = if k = k' then none else getI m k' := by
  induction m with
  | nil => simp [delI, getI]
  | cons p m ih =>
    have h0 : delI (p :: m) k = if p.1 = k then delI m k else p :: delI m k := by
      unfold delI; rw [List.filter_cons]; by_cases h : p.1 = k <;> simp [h]
    rw [h0]
    by_cases h : p.1 = k
    · rw [if_pos h, ih]; simp only [getI]
      by_cases h2 : k = k'
      · simp [h2]
      · have : ¬ p.1 = k' := fun e => h2 (h.symm.trans e)
        simp [h2, this]
    · rw [if_neg h]; simp only [getI, ih]
      by_cases h2 : k = k'
      · subst h2; simp [h]
      · simp [h2]
theorem getI_some {m : List (Int × α)} {k : Int} {v : α} (h : getI m k = some v) : (k, v) ∈ m := by
  induction m with
  | nil => simp [getI] at h
  | cons p m ih =>
    simp only [getI] at h
    by_cases hp : p.1 = k
    · rw [if_pos hp] at h; cases h; rw [← hp]; simp
    · rw [if_neg hp] at h; exact List.mem_cons_of_mem _ (ih h)
theorem getI_mem {m : List (Int × α)} {k : Int} : (∃ v, getI m k = some v) ↔ k ∈ keysI m := by
  induction m with
  | nil => simp [getI, keysI]
  | cons p m ih =>
    simp only [getI, keysI, List.map_cons, List.mem_cons]
    by_cases hp : p.1 = k
    · simp [hp]
    · rw [if_neg hp, ih]; constructor
      · exact fun h => .inr h
      · rintro (h | h)
        · exact absurd h.symm hp
        · exact h
theorem getI_none {m : List (Int × α)} {k : Int} : getI m k = none ↔ k ∉ keysI m := by
  rw [← getI_mem]
  cases getI m k <;> simp
theorem atI_get (m : List (Int × α)) (k : Int) : ∀ i, (atI m k i).map (·.2) = getI m k := by
  induction m with
  | nil => intro i; rfl
  | cons p m ih =>
    intro i
    simp only [atI, getI]
    split
    · rfl
    · exact ih (i + 1)
theorem atI_some {m : List (Int × α)} {k : Int} : ∀ {i j : Nat} {v u : α}, atI m k i = some (j, v) → ∃ n, j = i + n ∧ n < m.length ∧ (m[n]?).map (·.1) = some k ∧ putI m k u = m.set n (k, u) := by
  induction m with
  | nil => intro i j v u h; simp [atI] at h
  | cons p m ih =>
    intro i j v u h
    simp only [atI] at h
    by_cases hp : p.1 = k
    · rw [if_pos hp] at h
      simp at h
      exact ⟨0, by omega, by simp, by simp [hp], by simp [putI, hp]⟩
    · rw [if_neg hp] at h
      obtain ⟨n, h1, h2, h3, h4⟩ := ih (u := u) h
      exact ⟨n + 1, by omega, by simp; omega, by simpa using h3, by simp [putI, hp, h4]⟩
theorem atI_none {m : List (Int × α)} {k : Int} : ∀ {i : Nat} {u : α}, atI m k i = none → putI m k u = m ++ [(k, u)] ∧ k ∉ keysI m := by
  induction m with
  | nil => intro i u _; exact ⟨rfl, by simp [keysI]⟩
  | cons p m ih =>
    intro i u h
    simp only [atI] at h
    by_cases hp : p.1 = k
    · rw [if_pos hp] at h; cases h
    · rw [if_neg hp] at h
      obtain ⟨h1, h2⟩ := ih (u := u) h
      refine ⟨by simp [putI, hp, h1], ?_⟩
      simp only [keysI, List.map_cons, List.mem_cons, not_or]
      exact ⟨fun e => hp e.symm, h2⟩
theorem del_erase {m : List (Int × α)} {k : Int} : ∀ {i j : Nat} {v : α}, (keysI m).Nodup → atI m k i = some (j, v) → ∃ n, j = i + n ∧ n < m.length ∧ delI m k = m.eraseIdx n := by
  induction m with
  | nil => intro i j v _ h; simp [atI] at h
  | cons p m ih =>
    intro i j v hn h
    simp only [atI] at h
    have hn' := List.nodup_cons.1 hn
    by_cases hp : p.1 = k
    · rw [if_pos hp] at h
      simp at h
      refine ⟨0, by omega, by simp, ?_⟩
      unfold delI
      rw [List.filter_cons, if_neg (by simp [hp])]
      simp only [List.eraseIdx_cons_zero]
      refine List.filter_eq_self.2 fun q hq => ?_
      have : q.1 ≠ k := fun e => hn'.1 (List.mem_map.2 ⟨q, hq, by simp [e, hp]⟩)
      simp [this]
    · rw [if_neg hp] at h
      obtain ⟨n, h1, h2, h3⟩ := ih hn'.2 h
      refine ⟨n + 1, by omega, by simp; omega, ?_⟩
      unfold delI at h3 ⊢
      rw [List.filter_cons, if_pos (by simp [hp]), h3]
      rfl
theorem del_none {m : List (Int × α)} {k : Int} (h : k ∉ keysI m) : delI m k = m := List.filter_eq_self.2 fun q hq => by
  have : q.1 ≠ k := fun e => h (by rw [← e]; exact List.mem_map.2 ⟨q, hq, rfl⟩)
  simp [this]
theorem keysI_cons {p : Int × α} {m : List (Int × α)} : keysI (p :: m) = p.1 :: keysI m := rfl
theorem keys_put_in {m : List (Int × α)} {k : Int} {v : α} (h : k ∈ keysI m) : keysI (putI m k v) = keysI m := by
  induction m with
  | nil => simp [keysI] at h
  | cons p m ih =>
    simp only [putI]
    by_cases hp : p.1 = k
    · rw [if_pos hp, keysI_cons, keysI_cons, hp]
    · rw [if_neg hp, keysI_cons, keysI_cons]
      rw [keysI_cons, List.mem_cons] at h
      rcases h with h | h
      · exact absurd h.symm hp
      · rw [ih h]
theorem keys_put_out {m : List (Int × α)} {k : Int} {v : α} (h : k ∉ keysI m) : keysI (putI m k v) = keysI m ++ [k] := by
  induction m with
  | nil => rfl
  | cons p m ih =>
    rw [keysI_cons, List.mem_cons, not_or] at h
    simp only [putI]
    rw [if_neg (fun e => h.1 e.symm), keysI_cons, keysI_cons, ih h.2]
    rfl
theorem atI_nokey {m : List (Int × α)} {k : Int} : ∀ {i : Nat}, atI m k i = none → k ∉ keysI m := by
  induction m with
  | nil => intro i _; simp [keysI]
  | cons p m ih =>
    intro i h
    simp only [atI] at h
    by_cases hp : p.1 = k
    · rw [if_pos hp] at h; cases h
    · rw [if_neg hp] at h
      simp only [keysI, List.map_cons, List.mem_cons, not_or]
      exact ⟨fun e => hp e.symm, ih h⟩
theorem nodup_put {m : List (Int × α)} {k : Int} {v : α} (h : (keysI m).Nodup) : (keysI (putI m k v)).Nodup := by
  by_cases hk : k ∈ keysI m
  · rw [keys_put_in hk]; exact h
  · rw [keys_put_out hk]
    exact List.nodup_append.2 ⟨h, by simp, fun a ha b hb => by simp at hb; subst hb; exact fun e => hk (e ▸ ha)⟩
theorem nodup_del {m : List (Int × α)} {k : Int} (h : (keysI m).Nodup) : (keysI (delI m k)).Nodup := List.Sublist.nodup (List.Sublist.map _ List.filter_sublist) h
theorem putI_len (m : List (Int × α)) (k : Int) (v : α) : (putI m k v).length ≤ m.length + 1 := by
  induction m with
  | nil => simp [putI]
  | cons p m ih => simp only [putI]; split <;> simp <;> omega
theorem atM_I {f : α → Value} (m : List (Int × α)) (k : Int) : ∀ i, atM (m.map fun p => ([p.1], f p.2)) [k] i = (atI m k i).map fun q => (q.1, f q.2) := by
  induction m with
  | nil => intro i; rfl
  | cons p m ih =>
    intro i
    simp only [List.map_cons, atM, atI, List.cons.injEq, and_true]
    split
    · rfl
    · exact ih (i + 1)
end

theorem map_erase {α β : Type} {g : α → β} : ∀ {l : List α} {i : Nat}, (l.eraseIdx i).map g = (l.map g).eraseIdx i
  | [], _ => rfl
  | _ :: _, 0 => rfl
  | a :: l, i + 1 => by simp [map_erase (l := l) (i := i)]
/-- What a map's block holds. -/
structure MapI {α : Type} (f : α → Value) (m : List (Int × α)) (arr : Array MapEntry) (clock : Nat) : Prop where
  eq : arr.toList.map (fun e => (e.key, e.val)) = m.map (fun p => (Value.int .i64 p.1, f p.2))
  keys : (keysI m).Nodup
  born : (arr.toList.map (·.born)).Nodup
  old : ∀ x ∈ arr.toList, x.born < clock
/-- A map of integers' keys, of the call's own or to be read. -/
def mi {α : Type} (b : Nat) (f : α → Value) (m : List (Int × α)) : Sp where
  foot := [b]
  holds w := ∃ arr clock, w.heap[b]? = some (.map arr clock) ∧ MapI f m arr clock
  lt w h k hk := by
    obtain ⟨arr, clock, h1, _⟩ := h
    simp at hk; subst hk
    exact (Array.getElem?_eq_some_iff.1 h1).1
  loc w w' hw h := by
    obtain ⟨arr, clock, h1, h2⟩ := h
    exact ⟨arr, clock, by rw [hw b (by simp)]; exact h1, h2⟩
/-- A map, named by its value: nil, or a block. -/
def miV {α : Type} (v : Value) (f : α → Value) (m : List (Int × α)) : Sp where
  foot := match v with | .map (some b) => [b] | _ => []
  holds w := (v = .map none ∧ m = []) ∨ ∃ b, v = .map (some b) ∧ (mi b f m).holds w
  lt w h k hk := by
    rcases h with ⟨rfl, _⟩ | ⟨b, rfl, h⟩
    · simp at hk
    · exact (mi b f m).lt w h k hk
  loc w w' hw h := by
    rcases h with h | ⟨b, rfl, h⟩
    · exact .inl h
    · exact .inr ⟨b, rfl, (mi b f m).loc w w' hw h⟩

section
variable {α : Type} {f : α → Value} {m : List (Int × α)} {arr : Array MapEntry} {clock : Nat}
theorem MapI.len (h : MapI f m arr clock) : arr.size = m.length := by
  have := congrArg List.length h.eq
  simpa using this
theorem MapI.find {P : Program} {t : TypeId} (h : MapI f m arr clock) (ht : P.underlying t = some (.int .i64)) (w : World) (k : Int) : (Instr.findKey t (.int .i64 k) arr.toList).run P w = .ok ((atI m k 0).map fun q => (q.1, f q.2)) w := by
  have h1 := (KT.int ht).find w [k] arr.toList (m.map fun p => ([p.1], f p.2)) (by rw [h.eq, List.map_map]; rfl) rfl (fun p hp => by obtain ⟨q, _, rfl⟩ := List.mem_map.1 hp; rfl)
  rw [atM_I] at h1
  exact h1
theorem MapI.put (h : MapI f m arr clock) (k : Int) (u : α) : match atI m k 0 with
    | some (j, _) => j < arr.size ∧ (arr[j]?).map (·.key) = some (.int .i64 k) ∧ MapI f (putI m k u) (arr.modify j fun e => { e with key := .int .i64 k, val := f u }) clock
    | none => MapI f (putI m k u) (arr.push { key := .int .i64 k, val := f u, born := clock }) (clock + 1) := by
  have hlen := h.len
  cases hat : atI m k 0 with
  | none =>
    obtain ⟨hs, hk⟩ := atI_none (u := u) hat
    refine ⟨?_, nodup_put h.keys, ?_, ?_⟩
    · rw [hs]; simp [h.eq]
    · rw [Array.toList_push, List.map_append]
      refine List.nodup_append.2 ⟨h.born, by simp, fun a ha b hb => ?_⟩
      obtain ⟨x, hx, rfl⟩ := List.mem_map.1 ha
      simp at hb; subst hb
      have := h.old x hx
      omega
    · intro x hx
      rw [Array.toList_push, List.mem_append] at hx
      rcases hx with hx | hx
      · have := h.old x hx; omega
      · simp at hx; subst hx; simp
  | some p =>
    obtain ⟨j, v⟩ := p
    obtain ⟨q, hj, hq, hqk, hs⟩ := atI_some (u := u) hat
    have hjq : j = q := by omega
    subst hjq
    have hja : j < arr.size := by omega
    have h4 : (arr.toList.map (fun e => (e.key, e.val)))[j]? = (m.map (fun p => (Value.int .i64 p.1, f p.2)))[j]? := by rw [h.eq]
    rw [List.getElem?_map, List.getElem?_map, Array.getElem?_toList, Array.getElem?_eq_getElem hja, List.getElem?_eq_getElem hq] at h4
    rw [List.getElem?_eq_getElem hq] at hqk
    simp at h4 hqk
    have hb : (arr.modify j fun e => { e with key := Value.int .i64 k, val := f u }).toList.map (·.born) = arr.toList.map (·.born) := by
      apply List.ext_getElem?
      intro i
      simp only [List.getElem?_map, Array.getElem?_toList, Array.getElem?_modify]
      by_cases hij : j = i
      · subst hij; simp [hja]
      · simp [hij]
    refine ⟨hja, by rw [Array.getElem?_eq_getElem hja]; simp [h4.1, hqk], ?_, nodup_put h.keys, by rw [hb]; exact h.born, ?_⟩
    · rw [hs]
      apply List.ext_getElem?
      intro i
      have h5 : (arr.toList.map (fun e => (e.key, e.val)))[i]? = (m.map (fun p => (Value.int .i64 p.1, f p.2)))[i]? := by rw [h.eq]
      simp only [List.getElem?_map, Array.getElem?_toList, Array.getElem?_modify, List.getElem?_set] at h5 ⊢
      by_cases hij : j = i
      · subst hij
        simp [hja, hq]
      · simp [hij, h5]
    · intro x hx
      have hx2 : x.born ∈ (arr.modify j fun e => { e with key := Value.int .i64 k, val := f u }).toList.map (·.born) := List.mem_map.2 ⟨x, hx, rfl⟩
      rw [hb] at hx2
      obtain ⟨y, hy, he⟩ := List.mem_map.1 hx2
      rw [← he]; exact h.old y hy
theorem MapI.del (h : MapI f m arr clock) (k : Int) : match atI m k 0 with
    | some (j, _) => MapI f (delI m k) (arr.eraseIdxIfInBounds j) clock
    | none => MapI f (delI m k) arr clock := by
  have hlen := h.len
  cases hat : atI m k 0 with
  | none =>
    have hk2 := atI_nokey hat
    rw [del_none hk2]; exact h
  | some p =>
    obtain ⟨j, v⟩ := p
    obtain ⟨n, hj, hn, hd⟩ := del_erase h.keys hat
    have hjn : j = n := by omega
    subst hjn
    have hja : j < arr.size := by omega
    have ht : (arr.eraseIdxIfInBounds j).toList = arr.toList.eraseIdx j := by
      rw [Array.eraseIdxIfInBounds, dif_pos hja, Array.toList_eraseIdx]
    have hsub : List.Sublist (arr.toList.eraseIdx j) arr.toList := List.eraseIdx_sublist _ _
    refine ⟨?_, nodup_del h.keys, ?_, ?_⟩
    · rw [ht, hd, map_erase, map_erase, h.eq]
    · rw [ht]; exact List.Sublist.nodup (List.Sublist.map _ hsub) h.born
    · intro x hx
      rw [ht] at hx
      exact h.old x (hsub.mem hx)
theorem MapI.nil : MapI f [] #[] clock := ⟨rfl, by simp [keysI], by simp, by simp⟩
end

section
variable {α : Type} {f : α → Value} {m : List (Int × α)} {c : Cx} {E : Env} {L : List Sp} {ty T k e : TypeId} {x y z : Operand} {b : Nat}
theorem Lo.makeMapI (f : α → Value) : Lo c E L (.makeMap T none) ty fun v L' => ∃ b, v = .map (some b) ∧ L' = mi b f [] :: L := fun _ a w _ hs d pos af g K Q hK =>
  wp_loud (v := .map (some w.heap.size)) (w' := w.alloc (.map #[] 0)) (by simp [execOp, run_makeMap])
    (hK _ _ _ ⟨_, rfl, rfl⟩ (hs.add (frame_alloc w _) ⟨#[], 0, heap_alloc_new w _, MapI.nil⟩ (by simp [mi])))
/-- Where a map's cells are known: among what is owned, or may be read; or nil. -/
inductive Mc (c : Cx) (L : List Sp) (v : Value) {α : Type} (f : α → Value) (m : List (Int × α)) : Prop
  | own (i : Nat) (b : Nat) (hv : v = .map (some b)) (hi : L[i]? = some (mi b f m))
  | ro (i : Nat) (b : Nat) (hv : v = .map (some b)) (hi : c.Ro[i]? = some (mi b f m))
  | nil (hv : v = .map none) (hm : m = [])
  | roV (i : Nat) (hi : c.Ro[i]? = some (miV v f m))
theorem Mc.holds {v : Value} (h : Mc c L v f m) (ok : c.Ok) {w : World} (hs : St c.w0 c.M L w) : (miV v f m).holds w := by
  cases h with
  | own i b hv hi => exact .inr ⟨b, hv, hs.at_ _ (List.mem_of_getElem? hi)⟩
  | ro i b hv hi => exact .inr ⟨b, hv, c.ro ok hs hi⟩
  | nil hv hm => exact .inl ⟨hv, hm⟩
  | roV i hi => exact c.ro ok hs hi
theorem run_lookI {P : Program} {w : World} {v zv : Value} {key : Int} (hT : P.underlying T = some (.map k e)) (hk : P.underlying k = some (.int .i64)) (hz : ∀ w, (zeroValue e).run P w = .ok zv w) (hm : (miV v f m).holds w) (ok : Bool) :
    (Instr.lookup T v (.int .i64 key) ok).run P w = .ok (if ok then .tuple #[((getI m key).map f).getD zv, .bool (getI m key).isSome] else ((getI m key).map f).getD zv) w := by
  have hc : ∀ em, (Instr.checkKey em 10000 k (.int .i64 key)).run P w = .ok () w := fun em => (KT.int hk).check w em [key] rfl
  rcases hm with ⟨rfl, rfl⟩ | ⟨b, rfl, arr, clock, h1, hM⟩
  · have hf : (Instr.findKey k (.int .i64 key) []).run P w = .ok none w := by simp [Instr.findKey, run_underlying hk, Instr.findNow]
    simp only [Instr.lookup, Sem.run_bind, run_underlying hT, Result.andThen_ok, Sem.run_pure, hc, hf, hz, getI]
    cases ok <;> rfl
  · have hf := hM.find hk w key
    have hg : (getObj b).run P w = .ok (.map arr clock) w := by simp [getObj, Sem.run, h1]
    have ha := atI_get m key 0
    simp only [Instr.lookup, Sem.run_bind, run_underlying hT, Result.andThen_ok, hg, hc, hf, Sem.run_pure]
    cases hat : atI m key 0 with
    | none => rw [hat] at ha; cases ok <;> simp [← ha, hz]
    | some p => obtain ⟨i, v⟩ := p; rw [hat] at ha; cases ok <;> simp [← ha]
theorem Qt.lkI {v zv V : Value} {key : Int} (hT : c.P.underlying T = some (.map k e)) (hk : c.P.underlying k = some (.int .i64)) (hz : ∀ w, (zeroValue e).run c.P w = .ok zv w) (hx : ev E x = some v) (hy : ev E y = some (.int .i64 key)) (hm : Mc c L v f m) (hV : ((getI m key).map f).getD zv = V) :
    Qt c E L (.lookup T x y false) ty V := fun ok a w ha hs _ _ _ _ => by
  have h1 := run_lookI (w := w) (key := key) hT hk hz (hm.holds ok hs) false
  subst hV
  simp [execOp, ha.ev hx, ha.ev hy, h1]
theorem Qt.lkOk {v zv V : Value} {key : Int} {q : Bool} (hT : c.P.underlying T = some (.map k e)) (hk : c.P.underlying k = some (.int .i64)) (hz : ∀ w, (zeroValue e).run c.P w = .ok zv w) (hx : ev E x = some v) (hy : ev E y = some (.int .i64 key)) (hm : Mc c L v f m) (hV : ((getI m key).map f).getD zv = V) (hq : (getI m key).isSome = q) :
    Qt c E L (.lookup T x y true) ty (.tuple #[V, .bool q]) := fun ok a w ha hs _ _ _ _ => by
  have h1 := run_lookI (w := w) (key := key) hT hk hz (hm.holds ok hs) true
  subst hV hq
  simp [execOp, ha.ev hx, ha.ev hy, h1]
theorem Qt.lenI {v : Value} {ts : Array TypeId} (h0 : ts[0]? = some T) (hT : c.P.underlying T = some (.map k e)) (hx : ev E x = some v) (hm : Mc c L v f m) : Qt c E L (.call { callee := .builtin .len, args := #[x], argTypes := ts }) ty (.int .i64 m.length) := fun ok a w ha hs _ _ _ _ => by
  have h := hm.holds ok hs
  have : (Builtin.len_ ts ty #[v]).run c.P w = .ok (.int .i64 m.length) w := by
    rcases h with ⟨rfl, rfl⟩ | ⟨b, rfl, arr, clock, h1, hM⟩
    · simp [Builtin.len_, h0, run_underlying hT, Result.andThen, goInt]
    · have hg : (getObj b).run c.P w = .ok (.map arr clock) w := by simp [getObj, Sem.run, h1]
      simp [Builtin.len_, h0, run_underlying hT, Result.andThen, hg, goInt, hM.len]
  simp [execOp, resolve, invoke, ha.ev hx, builtin, this]
end
end Go.LK
