/-
  Several texts in one: Lk30, Lk31, Lk32, Lk33, Lk34.
-/
import Derived.Test.YtohjlkjhpibkmaaGreatDoorLkD
import Derived.Maps.RangeRun
namespace Go.LK
open Go Go.RowKit

section
variable {α : Type}
def getI : List (Int × α) → Int → Option α
  | [], _ => none
  | p :: m, k => if p.1 = k then some p.2 else getI m k
def putI : List (Int × α) → Int → α → List (Int × α)
  | [], k, v => [(k, v)]
  | p :: m, k, v => if p.1 = k then (k, v) :: m else p :: putI m k v
def delI (m : List (Int × α)) (k : Int) : List (Int × α) := m.filter fun p => decide (p.1 ≠ k)
def atI : List (Int × α) → Int → Nat → Option (Nat × α)
  | [], _, _ => none
  | p :: m, k, i => if p.1 = k then some (i, p.2) else atI m k (i + 1)
def keysI (m : List (Int × α)) : List Int := m.map (·.1)
theorem getI_mem {m : List (Int × α)} {k : Int} : (∃ v, getI m k = some v) ↔ k ∈ keysI m := by
  induction m with
  | nil => simp [getI, keysI]
  | cons p m ih =>
    simp only [getI, keysI, List.map_cons, List.mem_cons]
    by_cases hp : p.1 = k
    · simp [hp]
    · rw [if_neg hp, ih]; constructor
      · exact fun h => .inr h
      · rintro (h | h)
        · exact absurd h.symm hp
        · exact h
theorem atI_get (m : List (Int × α)) (k : Int) : ∀ i, (atI m k i).map (·.2) = getI m k := by
  induction m with
  | nil => intro i; rfl
  | cons p m ih =>
    intro i
    simp only [atI, getI]
    split
    · rfl
    · exact ih (i + 1)
theorem atI_some {m : List (Int × α)} {k : Int} : ∀ {i j : Nat} {v u : α}, atI m k i = some (j, v) → ∃ n, j = i + n ∧ n < m.length ∧ (m[n]?).map (·.1) = some k ∧ putI m k u = m.set n (k, u) := by
  induction m with
  | nil => intro i j v u h; simp [atI] at h
  | cons p m ih =>
    intro i j v u h
    simp only [atI] at h
    by_cases hp : p.1 = k
    · rw [if_pos hp] at h
      simp at h
      exact ⟨0, by omega, by simp, by simp [hp], by simp [putI, hp]⟩
    · rw [if_neg hp] at h
      obtain ⟨n, h1, h2, h3, h4⟩ := ih (u := u) h
      exact ⟨n + 1, by omega, by simp; omega, by simpa using h3, by simp [putI, hp, h4]⟩
theorem atI_none {m : List (Int × α)} {k : Int} : ∀ {i : Nat} {u : α}, atI m k i = none → putI m k u = m ++ [(k, u)] ∧ k ∉ keysI m := by
  induction m with
  | nil => intro i u _; exact ⟨rfl, by simp [keysI]⟩
  | cons p m ih =>
    intro i u h
    simp only [atI] at h
    by_cases hp : p.1 = k
    · rw [if_pos hp] at h; cases h
    · rw [if_neg hp] at h
      obtain ⟨h1, h2⟩ := ih (u := u) h
      refine ⟨by simp [putI, hp, h1], ?_⟩
      simp only [keysI, List.map_cons, List.mem_cons, not_or]
      exact ⟨fun e => hp e.symm, h2⟩
theorem del_erase {m : List (Int × α)} {k : Int} : ∀ {i j : Nat} {v : α}, (keysI m).Nodup → atI m k i = some (j, v) → ∃ n, j = i + n ∧ n < m.length ∧ delI m k = m.eraseIdx n := by
  induction m with
  | nil => intro i j v _ h; simp [atI] at h
  | cons p m ih =>
    intro i j v hn h
    simp only [atI] at h
    have hn' := List.nodup_cons.1 hn
    by_cases hp : p.1 = k
    · rw [if_pos hp] at h
      simp at h
      refine ⟨0, by omega, by simp, ?_⟩
      unfold delI
      rw [List.filter_cons, if_neg (by simp [hp])]
      simp only [List.eraseIdx_cons_zero]
      refine List.filter_eq_self.2 fun q hq => ?_
      have : q.1 ≠ k := fun e => hn'.1 (List.mem_map.2 ⟨q, hq, by simp [e, hp]⟩)
      simp [this]
    · rw [if_neg hp] at h
      obtain ⟨n, h1, h2, h3⟩ := ih hn'.2 h
      refine ⟨n + 1, by omega, by simp; omega, ?_⟩
      unfold delI at h3 ⊢
      rw [List.filter_cons, if_pos (by simp [hp]), h3]
      rfl
theorem del_none {m : List (Int × α)} {k : Int} (h : k ∉ keysI m) : delI m k = m := List.filter_eq_self.2 fun q hq => by
  have : q.1 ≠ k := fun e => h (by rw [← e]; exact List.mem_map.2 ⟨q, hq, rfl⟩)
  simp [this]
theorem keysI_cons {p : Int × α} {m : List (Int × α)} : keysI (p :: m) = p.1 :: keysI m := rfl
theorem keys_put_in {m : List (Int × α)} {k : Int} {v : α} (h : k ∈ keysI m) : keysI (putI m k v) = keysI m := by
  induction m with
  | nil => simp [keysI] at h
  | cons p m ih =>
    simp only [putI]
    by_cases hp : p.1 = k
    · rw [if_pos hp, keysI_cons, keysI_cons, hp]
    · rw [if_neg hp, keysI_cons, keysI_cons]
      rw [keysI_cons, List.mem_cons] at h
      rcases h with h | h
      · exact absurd h.symm hp
      · rw [ih h]
theorem keys_put_out {m : List (Int × α)} {k : Int} {v : α} (h : k ∉ keysI m) : keysI (putI m k v) = keysI m ++ [k] := by
  induction m with
  | nil => rfl
  | cons p m ih =>
    rw [keysI_cons, List.mem_cons, not_or] at h
    simp only [putI]
    rw [if_neg (fun e => h.1 e.symm), keysI_cons, keysI_cons, ih h.2]
    rfl
theorem atI_nokey {m : List (Int × α)} {k : Int} : ∀ {i : Nat}, atI m k i = none → k ∉ keysI m := by
  induction m with
  | nil => intro i _; simp [keysI]
  | cons p m ih =>
    intro i h
    simp only [atI] at h
    by_cases hp : p.1 = k
    · rw [if_pos hp] at h; cases h
    · rw [if_neg hp] at h
      simp only [keysI, List.map_cons, List.mem_cons, not_or]
      exact ⟨fun e => hp e.symm, ih h⟩
theorem nodup_put {m : List (Int × α)} {k : Int} {v : α} (h : (keysI m).Nodup) : (keysI (putI m k v)).Nodup := by
  by_cases hk : k ∈ keysI m
  · rw [keys_put_in hk]; exact h
  · rw [keys_put_out hk]
    exact List.nodup_append.2 ⟨h, by simp, fun a ha b hb => by simp at hb; subst hb; exact fun e => hk (e ▸ ha)⟩
theorem nodup_del {m : List (Int × α)} {k : Int} (h : (keysI m).Nodup) : (keysI (delI m k)).Nodup := List.Sublist.nodup (List.Sublist.map _ List.filter_sublist) h
theorem atM_I {f : α → Value} (m : List (Int × α)) (k : Int) : ∀ i, atM (m.map fun p => ([p.1], f p.2)) [k] i = (atI m k i).map fun q => (q.1, f q.2) := by
  induction m with
  | nil => intro i; rfl
  | cons p m ih =>
    intro i
    simp only [List.map_cons, atM, atI, List.cons.injEq, and_true]
    split
    · rfl
    · exact ih (i + 1)
end

theorem map_erase {α β : Type} {g : α → β} : ∀ {l : List α} {i : Nat}, (l.eraseIdx i).map g = (l.map g).eraseIdx i
  | [], _ => rfl
  | _ :: _, 0 => rfl
  | a :: l, i + 1 => by simp [map_erase (l := l) (i := i)]
/-- What a map's block holds. -/
structure MapI {α : Type} (f : α → Value) (m : List (Int × α)) (arr : Array MapEntry) (clock : Nat) : Prop where
  eq : arr.toList.map (fun e => (e.key, e.val)) = m.map (fun p => (Value.int .i64 p.1, f p.2))
  keys : (keysI m).Nodup
  born : (arr.toList.map (·.born)).Nodup
  old : ∀ x ∈ arr.toList, x.born < clock
/-- A map of integers' keys, of the call's own or to be read. -/
def mi {α : Type} (b : Nat) (f : α → Value) (m : List (Int × α)) : Sp where
  foot := [b]
  holds w := ∃ arr clock, w.heap[b]? = some (.map arr clock) ∧ MapI f m arr clock
  lt w h k hk := by
    obtain ⟨arr, clock, h1, _⟩ := h
    simp at hk; subst hk
    exact (Array.getElem?_eq_some_iff.1 h1).1
  loc w w' hw h := by
    obtain ⟨arr, clock, h1, h2⟩ := h
    exact ⟨arr, clock, by rw [hw b (by simp)]; exact h1, h2⟩
/-- A map, named by its value: nil, or a block. -/
def miV {α : Type} (v : Value) (f : α → Value) (m : List (Int × α)) : Sp where
  foot := match v with | .map (some b) => [b] | _ => []
  holds w := (v = .map none ∧ m = []) ∨ ∃ b, v = .map (some b) ∧ (mi b f m).holds w
  lt w h k hk := by
    rcases h with ⟨rfl, _⟩ | ⟨b, rfl, h⟩
    · simp at hk
    · exact (mi b f m).lt w h k hk
  loc w w' hw h := by
    rcases h with h | ⟨b, rfl, h⟩
    · exact .inl h
    · exact .inr ⟨b, rfl, (mi b f m).loc w w' hw h⟩

section
variable {α : Type} {f : α → Value} {m : List (Int × α)} {arr : Array MapEntry} {clock : Nat}
theorem MapI.len (h : MapI f m arr clock) : arr.size = m.length := by
  have := congrArg List.length h.eq
  simpa using this
theorem MapI.find {P : Program} {t : TypeId} (h : MapI f m arr clock) (ht : P.underlying t = some (.int .i64)) (w : World) (k : Int) : (Instr.findKey t (.int .i64 k) arr.toList).run P w = .ok ((atI m k 0).map fun q => (q.1, f q.2)) w := by
  have h1 := (KT.int ht).find w [k] arr.toList (m.map fun p => ([p.1], f p.2)) (by rw [h.eq, List.map_map]; rfl) rfl (fun p hp => by obtain ⟨q, _, rfl⟩ := List.mem_map.1 hp; rfl)
  rw [atM_I] at h1
  exact h1
theorem MapI.put (h : MapI f m arr clock) (k : Int) (u : α) : match atI m k 0 with
    | some (j, _) => j < arr.size ∧ (arr[j]?).map (·.key) = some (.int .i64 k) ∧ MapI f (putI m k u) (arr.modify j fun e => { e with key := .int .i64 k, val := f u }) clock
    | none => MapI f (putI m k u) (arr.push { key := .int .i64 k, val := f u, born := clock }) (clock + 1) := by
  have hlen := h.len
  cases hat : atI m k 0 with
  | none =>
    obtain ⟨hs, hk⟩ := atI_none (u := u) hat
    refine ⟨?_, nodup_put h.keys, ?_, ?_⟩
    · rw [hs]; simp [h.eq]
    · rw [Array.toList_push, List.map_append]
      refine List.nodup_append.2 ⟨h.born, by simp, fun a ha b hb => ?_⟩
      obtain ⟨x, hx, rfl⟩ := List.mem_map.1 ha
      simp at hb; subst hb
      have := h.old x hx
      omega
    · intro x hx
      rw [Array.toList_push, List.mem_append] at hx
      rcases hx with hx | hx
      · have := h.old x hx; omega
      · simp at hx; subst hx; simp
  | some p =>
    obtain ⟨j, v⟩ := p
    obtain ⟨q, hj, hq, hqk, hs⟩ := atI_some (u := u) hat
    have hjq : j = q := by omega
    subst hjq
    have hja : j < arr.size := by omega
    have h4 : (arr.toList.map (fun e => (e.key, e.val)))[j]? = (m.map (fun p => (Value.int .i64 p.1, f p.2)))[j]? := by rw [h.eq]
    rw [List.getElem?_map, List.getElem?_map, Array.getElem?_toList, Array.getElem?_eq_getElem hja, List.getElem?_eq_getElem hq] at h4
    rw [List.getElem?_eq_getElem hq] at hqk
    simp at h4 hqk
    have hb : (arr.modify j fun e => { e with key := Value.int .i64 k, val := f u }).toList.map (·.born) = arr.toList.map (·.born) := by
      apply List.ext_getElem?
      intro i
      simp only [List.getElem?_map, Array.getElem?_toList, Array.getElem?_modify]
      by_cases hij : j = i
      · subst hij; simp [hja]
      · simp [hij]
    refine ⟨hja, by rw [Array.getElem?_eq_getElem hja]; simp [h4.1, hqk], ?_, nodup_put h.keys, by rw [hb]; exact h.born, ?_⟩
    · rw [hs]
      apply List.ext_getElem?
      intro i
      have h5 : (arr.toList.map (fun e => (e.key, e.val)))[i]? = (m.map (fun p => (Value.int .i64 p.1, f p.2)))[i]? := by rw [h.eq]
      simp only [List.getElem?_map, Array.getElem?_toList, Array.getElem?_modify, List.getElem?_set] at h5 ⊢
      by_cases hij : j = i
      · subst hij
        simp [hja, hq]
      · simp [hij, h5]
    · intro x hx
      have hx2 : x.born ∈ (arr.modify j fun e => { e with key := Value.int .i64 k, val := f u }).toList.map (·.born) := List.mem_map.2 ⟨x, hx, rfl⟩
      rw [hb] at hx2
      obtain ⟨y, hy, he⟩ := List.mem_map.1 hx2
      rw [← he]; exact h.old y hy
theorem MapI.del (h : MapI f m arr clock) (k : Int) : match atI m k 0 with
    | some (j, _) => MapI f (delI m k) (arr.eraseIdxIfInBounds j) clock
    | none => MapI f (delI m k) arr clock := by
  have hlen := h.len
  cases hat : atI m k 0 with
  | none =>
    have hk2 := atI_nokey hat
    rw [del_none hk2]; exact h
  | some p =>
    obtain ⟨j, v⟩ := p
    obtain ⟨n, hj, hn, hd⟩ := del_erase h.keys hat
    have hjn : j = n := by omega
    subst hjn
    have hja : j < arr.size := by omega
    have ht : (arr.eraseIdxIfInBounds j).toList = arr.toList.eraseIdx j := by
      rw [Array.eraseIdxIfInBounds, dif_pos hja, Array.toList_eraseIdx]
    have hsub : List.Sublist (arr.toList.eraseIdx j) arr.toList := List.eraseIdx_sublist _ _
    refine ⟨?_, nodup_del h.keys, ?_, ?_⟩
    · rw [ht, hd, map_erase, map_erase, h.eq]
    · rw [ht]; exact List.Sublist.nodup (List.Sublist.map _ hsub) h.born
    · intro x hx
      rw [ht] at hx
      exact h.old x (hsub.mem hx)
theorem MapI.nil : MapI f [] #[] clock := ⟨rfl, by simp [keysI], by simp, by simp⟩
end

section
variable {α : Type} {f : α → Value} {m : List (Int × α)} {c : Cx} {E : Env} {L : List Sp} {ty T k e : TypeId} {x y z : Operand} {b : Nat}
theorem Lo.makeMapI (f : α → Value) : Lo c E L (.makeMap T none) ty fun v L' => ∃ b, v = .map (some b) ∧ L' = mi b f [] :: L := fun _ a w _ hs d pos af g K Q hK =>
  wp_loud (v := .map (some w.heap.size)) (w' := w.alloc (.map #[] 0)) (by simp [execOp, run_makeMap])
    (hK _ _ _ ⟨_, rfl, rfl⟩ (hs.add (frame_alloc w _) ⟨#[], 0, heap_alloc_new w _, MapI.nil⟩ (by simp [mi])))
/-- Where a map's cells are known: among what is owned, or may be read; or nil. -/
inductive Mc (c : Cx) (L : List Sp) (v : Value) {α : Type} (f : α → Value) (m : List (Int × α)) : Prop
  | own (i : Nat) (b : Nat) (hv : v = .map (some b)) (hi : L[i]? = some (mi b f m))
  | ro (i : Nat) (b : Nat) (hv : v = .map (some b)) (hi : c.Ro[i]? = some (mi b f m))
  | nil (hv : v = .map none) (hm : m = [])
  | roV (i : Nat) (hi : c.Ro[i]? = some (miV v f m))
theorem Mc.holds {v : Value} (h : Mc c L v f m) (ok : c.Ok) {w : World} (hs : St c.w0 c.M L w) : (miV v f m).holds w := by
  cases h with
  | own i b hv hi => exact .inr ⟨b, hv, hs.at_ _ (List.mem_of_getElem? hi)⟩
  | ro i b hv hi => exact .inr ⟨b, hv, c.ro ok hs hi⟩
  | nil hv hm => exact .inl ⟨hv, hm⟩
  | roV i hi => exact c.ro ok hs hi
theorem run_lookI {P : Program} {w : World} {v zv : Value} {key : Int} (hT : P.underlying T = some (.map k e)) (hk : P.underlying k = some (.int .i64)) (hz : ∀ w, (zeroValue e).run P w = .ok zv w) (hm : (miV v f m).holds w) (ok : Bool) :
    (Instr.lookup T v (.int .i64 key) ok).run P w = .ok (if ok then .tuple #[((getI m key).map f).getD zv, .bool (getI m key).isSome] else ((getI m key).map f).getD zv) w := by
  have hc : ∀ em, (Instr.checkKey em 10000 k (.int .i64 key)).run P w = .ok () w := fun em => (KT.int hk).check w em [key] rfl
  rcases hm with ⟨rfl, rfl⟩ | ⟨b, rfl, arr, clock, h1, hM⟩
  · have hf : (Instr.findKey k (.int .i64 key) []).run P w = .ok none w := by simp [Instr.findKey, run_underlying hk, Instr.findNow]
    simp only [Instr.lookup, Sem.run_bind, run_underlying hT, Result.andThen_ok, Sem.run_pure, hc, hf, hz, getI]
    cases ok <;> rfl
  · have hf := hM.find hk w key
    have hg : (getObj b).run P w = .ok (.map arr clock) w := by simp [getObj, Sem.run, h1]
    have ha := atI_get m key 0
    simp only [Instr.lookup, Sem.run_bind, run_underlying hT, Result.andThen_ok, hg, hc, hf, Sem.run_pure]
    cases hat : atI m key 0 with
    | none => rw [hat] at ha; cases ok <;> simp [← ha, hz]
    | some p => obtain ⟨i, v⟩ := p; rw [hat] at ha; cases ok <;> simp [← ha]
theorem Qt.lkI {v zv V : Value} {key : Int} (hT : c.P.underlying T = some (.map k e)) (hk : c.P.underlying k = some (.int .i64)) (hz : ∀ w, (zeroValue e).run c.P w = .ok zv w) (hx : ev E x = some v) (hy : ev E y = some (.int .i64 key)) (hm : Mc c L v f m) (hV : ((getI m key).map f).getD zv = V) :
    Qt c E L (.lookup T x y false) ty V := fun ok a w ha hs _ _ _ _ => by
  have h1 := run_lookI (w := w) (key := key) hT hk hz (hm.holds ok hs) false
  subst hV
  simp [execOp, ha.ev hx, ha.ev hy, h1]
theorem Qt.lkOk {v zv V : Value} {key : Int} {q : Bool} (hT : c.P.underlying T = some (.map k e)) (hk : c.P.underlying k = some (.int .i64)) (hz : ∀ w, (zeroValue e).run c.P w = .ok zv w) (hx : ev E x = some v) (hy : ev E y = some (.int .i64 key)) (hm : Mc c L v f m) (hV : ((getI m key).map f).getD zv = V) (hq : (getI m key).isSome = q) :
    Qt c E L (.lookup T x y true) ty (.tuple #[V, .bool q]) := fun ok a w ha hs _ _ _ _ => by
  have h1 := run_lookI (w := w) (key := key) hT hk hz (hm.holds ok hs) true
  subst hV hq
  simp [execOp, ha.ev hx, ha.ev hy, h1]
end
end Go.LK

namespace Go.LK
open Go Go.RowKit

section
variable {α : Type} {f : α → Value} {m : List (Int × α)} {c : Cx} {E : Env} {L : List Sp} {ty T k e : TypeId} {x y z : Operand} {b : Nat}
theorem run_setObjB {P : Program} {w : World} {arr : Array MapEntry} {clock : Nat} {o' : Obj} (h : w.heap[b]? = some (.map arr clock)) : (setObj b o').run P w = .ok () { w with heap := w.heap.setIfInBounds b o' } := by simp [setObj, Sem.run, h]
theorem frame_set (w : World) (b : Nat) (o : Obj) : Frame w [b] { w with heap := w.heap.setIfInBounds b o } := ⟨rfl, rfl, rfl, by simp, fun j _ hj => by
  have : b ≠ j := fun e => hj (by simp [e])
  simp [Array.getElem?_setIfInBounds_ne this]⟩
theorem heap_set {w : World} {b : Nat} {o o' : Obj} (h : w.heap[b]? = some o') : ({ w with heap := w.heap.setIfInBounds b o } : World).heap[b]? = some o := by
  have hb : b < w.heap.size := (Array.getElem?_eq_some_iff.1 h).1
  simp [hb]
theorem run_putI {P : Program} {w : World} {key : Int} {u : α} (hT : P.underlying T = some (.map k e)) (hk : P.underlying k = some (.int .i64)) (hm : (mi b f m).holds w) :
    ∃ w', (Instr.mapUpdate T (.map (some b)) (.int .i64 key) (f u)).run P w = .ok () w' ∧ Frame w [b] w' ∧ (mi b f (putI m key u)).holds w' := by
  obtain ⟨arr, clock, h1, hM⟩ := hm
  have hf := hM.find hk w key
  have hg : (getObj b).run P w = .ok (.map arr clock) w := by simp [getObj, Sem.run, h1]
  have hc : ∀ em, (Instr.checkKey em 10000 k (.int .i64 key)).run P w = .ok () w := fun em => (KT.int hk).check w em [key] rfl
  have hp := hM.put key u
  cases hat : atI m key 0 with
  | none =>
    rw [hat] at hp
    refine ⟨_, ?_, frame_set w b (.map (arr.push { key := .int .i64 key, val := f u, born := clock }) (clock + 1)), ⟨_, _, heap_set h1, hp⟩⟩
    simp only [Instr.mapUpdate, Sem.run_bind, run_underlying hT, Result.andThen_ok, hg, hc, hf, hat, Option.map_none, run_setObjB h1]
  | some p =>
    obtain ⟨j, v⟩ := p
    rw [hat] at hp
    obtain ⟨hja, hkey, hp⟩ := hp
    have hst : (Instr.keyThatStays (((arr[j]?).map (·.key)).getD (.int .i64 key)) (.int .i64 key)).run P w = .ok (.int .i64 key) w := by
      rw [hkey]
      simp [Instr.keyThatStays, Instr.sameBits]
    refine ⟨_, ?_, frame_set w b (.map (arr.modify j fun e => { e with key := .int .i64 key, val := f u }) clock), ⟨_, _, heap_set h1, hp⟩⟩
    simp only [Instr.mapUpdate, Sem.run_bind, run_underlying hT, Result.andThen_ok, hg, hc, hf, hat, Option.map_some, hst, run_setObjB h1]
theorem Lo.mapPut {key : Int} {u : α} (i : Nat) (hT : c.P.underlying T = some (.map k e)) (hk : c.P.underlying k = some (.int .i64)) (hx : ev E x = some (.map (some b))) (hy : ev E y = some (.int .i64 key)) (hz : ev E z = some (f u)) (hi : L[i]? = some (mi b f m)) :
    Lo c E L (.mapUpdate T x y z) ty fun _ L' => L' = L.set i (mi b f (putI m key u)) := fun _ a w ha hst d pos af g K Q hK => by
  obtain ⟨w', h1, h2, h3⟩ := run_putI (key := key) (u := u) hT hk (hst.at_ _ (List.mem_of_getElem? hi))
  exact wp_loud0 (w' := w') (by simp [execOp, ha.ev hx, ha.ev hy, ha.ev hz, h1]) (hK _ _ _ rfl (hst.set hi (by simpa [mi] using h2) h3 (by simp [mi])))
theorem Lo.mapDel {key : Int} {ts : Array TypeId} (i : Nat) (h0 : ts[0]? = some T) (hT : c.P.underlying T = some (.map k e)) (hk : c.P.underlying k = some (.int .i64)) (hx : ev E x = some (.map (some b))) (hy : ev E y = some (.int .i64 key)) (hi : L[i]? = some (mi b f m)) :
    Lo c E L (.call { callee := .builtin .delete, args := #[x, y], argTypes := ts }) ty fun _ L' => L' = L.set i (mi b f (delI m key)) := fun _ a w ha hst d pos af g K Q hK => by
  obtain ⟨arr, clock, h1, hM⟩ := hst.at_ _ (List.mem_of_getElem? hi)
  have hf := hM.find hk w key
  have hg : (getObj b).run c.P w = .ok (.map arr clock) w := by simp [getObj, Sem.run, h1]
  have hc : ∀ em, (Instr.checkKey em 10000 k (.int .i64 key)).run c.P w = .ok () w := fun em => (KT.int hk).check w em [key] rfl
  have hp := hM.del key
  have key : ∃ arr', (Builtin.delete_ ts ty #[.map (some b), .int .i64 key]).run c.P w = .ok (.tuple #[]) { w with heap := w.heap.setIfInBounds b (.map arr' clock) } ∧ MapI f (delI m key) arr' clock := by
    cases hat : atI m key 0 with
    | none =>
      rw [hat] at hp
      refine ⟨arr, ?_, hp⟩
      simp [Builtin.delete_, h0, run_underlying hT, Result.andThen, hg, hc, hf, hat, run_setObjB h1]
    | some p =>
      obtain ⟨j, v⟩ := p
      rw [hat] at hp
      refine ⟨arr.eraseIdxIfInBounds j, ?_, hp⟩
      simp [Builtin.delete_, h0, run_underlying hT, Result.andThen, hg, hc, hf, hat, run_setObjB h1]
  obtain ⟨arr', h2, h3⟩ := key
  exact wp_loud (v := .tuple #[]) (by simp [execOp, resolve, invoke, ha.ev hx, ha.ev hy, builtin, h2]) (hK _ _ _ rfl (hst.set hi (frame_set w b _) ⟨arr', clock, heap_set h1, h3⟩ (by simp [mi])))

/-! ### A range over a map that is read -/
theorem Lo.rangeM {arr : Array MapEntry} {clock : Nat} (i : Nat) (hT : c.P.underlying T = some (.map k e)) (hx : ev E x = some (.map (some b))) (hi : c.Ro[i]? = some (blk b (.map arr clock))) :
    Lo c E L (.range T x) ty fun v L' => ∃ g, v = .pointer (some ⟨g, 0, none⟩) ∧ L' = blk g (.mapIter (some b) clock #[] clock) :: L := fun ok a w ha hs d pos af g K Q hK => by
  have hb : w.heap[b]? = some (.map arr clock) := c.ro ok hs hi
  have hg : (getObj b).run c.P w = .ok (.map arr clock) w := by simp [getObj, Sem.run, hb]
  exact wp_loud (v := .pointer (some ⟨w.heap.size, 0, none⟩)) (w' := w.alloc (.mapIter (some b) clock #[] clock)) (by simp [execOp, ha.ev hx, Instr.range, run_underlying hT, Result.andThen, hg, newObj, Sem.run])
    (hK _ _ _ ⟨_, rfl, rfl⟩ (hs.alloc _))
theorem Lo.rangeNil (hT : c.P.underlying T = some (.map k e)) (hx : ev E x = some (.map none)) :
    Lo c E L (.range T x) ty fun v L' => ∃ g, v = .pointer (some ⟨g, 0, none⟩) ∧ L' = blk g (.mapIter none 0 #[] 0) :: L := fun ok a w ha hs d pos af g K Q hK =>
  wp_loud (v := .pointer (some ⟨w.heap.size, 0, none⟩)) (w' := w.alloc (.mapIter none 0 #[] 0)) (by simp [execOp, ha.ev hx, Instr.range, run_underlying hT, Result.andThen, newObj, Sem.run])
    (hK _ _ _ ⟨_, rfl, rfl⟩ (hs.alloc _))
theorem Lo.nextNil {g : Nat} (i : Nat) (hx : ev E x = some (.pointer (some ⟨g, 0, none⟩))) (hi : L[i]? = some (blk g (.mapIter none 0 #[] 0))) :
    Lo c E L (.next x false) ty fun v L' => v = .tuple #[.bool false] ∧ L' = L := fun _ a w ha hst d pos af gd K Q hK => by
  have hh : w.heap[g]? = some (.mapIter none 0 #[] 0) := hst.at_ _ (List.mem_of_getElem? hi)
  exact wp_loud (v := .tuple #[.bool false]) (w' := w) (by simp [execOp, ha.ev hx, Instr.next, getObj, Sem.run, hh, Result.andThen]) (hK _ _ _ ⟨rfl, rfl⟩ hst)
theorem Lo.nextM {g : Nat} {arr : Array MapEntry} {clock : Nat} {seen : Array Nat} (i j : Nat) (hx : ev E x = some (.pointer (some ⟨g, 0, none⟩))) (hi : L[i]? = some (blk g (.mapIter (some b) clock seen clock))) (hj : c.Ro[j]? = some (blk b (.map arr clock))) (hold : ∀ x ∈ arr.toList, x.born < clock) :
    Lo c E L (.next x false) ty fun v L' => ((leftOf arr seen).size = 0 ∧ v = .tuple #[.bool false] ∧ L' = L) ∨ ∃ en ∈ (leftOf arr seen).toList, v = .tuple #[.bool true, en.key, en.val] ∧ L' = L.set i (blk g (.mapIter (some b) clock (seen.push en.born) clock)) := fun ok a w ha hst d pos af gd K Q hK => by
  have hr : w.heap[g]? = some (.mapIter (some b) clock seen clock) := hst.at_ _ (List.mem_of_getElem? hi)
  have hb : w.heap[b]? = some (.map arr clock) := c.ro ok hst hj
  rcases run_next_at (P := c.P) w ty g b clock clock seen arr clock hr hb hold (Nat.le_refl _) with ⟨h0, h1⟩ | ⟨en, hen, w1, hw1, h1⟩
  · exact wp_loud (v := .tuple #[.bool false]) (w' := w) (by simp [execOp, ha.ev hx, h1]) (hK _ _ _ (.inl ⟨h0, rfl, rfl⟩) hst)
  · have hst1 : St c.w0 c.M L w1 := by
      rcases hw1 with rfl | rfl
      · exact hst
      · exact hst.drew _
    have hr1 : w1.heap[g]? = some (.mapIter (some b) clock seen clock) := hst1.at_ _ (List.mem_of_getElem? hi)
    exact wp_loud (v := .tuple #[.bool true, en.key, en.val]) (by simp [execOp, ha.ev hx, h1, ChangeMaps.setBlock]) (hK _ _ _ (.inr ⟨en, hen, rfl, rfl⟩) (hst1.set hi (frame_set w1 g _) (heap_set hr1) (by simp [blk])))
theorem Qt.entryM {g : Nat} {arr : Array MapEntry} {clock : Nat} {seen : Array Nat} {en : MapEntry} (i j : Nat) (hx : ev E x = some (.pointer (some ⟨g, 0, none⟩))) (hi : L[i]? = some (blk g (.mapIter (some b) clock (seen.push en.born) clock))) (hj : c.Ro[j]? = some (blk b (.map arr clock)))
    (hen : en ∈ arr.toList) (hn : (arr.toList.map (·.born)).Nodup) : Qt c E L (.entry x) ty (.tuple #[en.key, en.val]) := fun ok a w ha hst _ _ _ _ => by
  have hr : w.heap[g]? = some (.mapIter (some b) clock (seen.push en.born) clock) := hst.at_ _ (List.mem_of_getElem? hi)
  have hb : w.heap[b]? = some (.map arr clock) := c.ro ok hst hj
  have := run_entry_at (P := c.P) w g b clock seen arr clock en hr hb hen hn
  simp [execOp, ha.ev hx, this]
end
end Go.LK

namespace Go.LK
open Go Go.RowKit

/-- The iterator gf (with what it has caught, lb) calls yield: on x behind those of vs where 'nx vs x'; where it ends by itself, 'full' holds of all. What it reads is in Ro; what the rounds own it leaves alone. -/
def ItN (P : Program) (gf : Nat) (lb : Array Value) (Ro : List Sp) (nx : List (List Value) → List Value → Prop) (full : List (List Value) → Prop) : Prop :=
  ∀ (l m : Nat) (X Z : Type) (φ : List (List Value) → X → Prop) (LL : X → List Sp) (ψ : Z → Prop) (LX : Z → List Sp) (Rx : List Sp) (W : World) (y0 : X),
    (∀ A ∈ Ro ++ Rx, A.holds W ∧ ∀ k ∈ A.foot, k ∉ feet (LL y0)) →
    (∀ vs y x W1, φ vs y → nx vs x → (∀ A ∈ Ro ++ Rx, A.holds W1 ∧ ∀ k ∈ A.foot, k ∉ feet (LL y)) → St W1 (feet (LL y)) (LL y) W1 →
      YieldAt (FW none) (m - 1) P l x.toArray W1 fun e W' => (e = .returned (.bool true) ∧ ∃ y', φ (vs ++ [x]) y' ∧ St W1 (feet (LL y)) (LL y') W') ∨ (e = .returned (.bool false) ∧ ∃ z, ψ z ∧ St W1 (feet (LL y)) (LX z) W')) →
    φ [] y0 → St W (feet (LL y0)) (LL y0) W →
    CallsIn (FW none) m P gf (#[.func (.yield l) #[] #[]] ++ lb) W fun e W' => (∃ v, e = .returned v) ∧ ((∃ vs y, full vs ∧ φ vs y ∧ St W (feet (LL y0)) (LL y) W') ∨ ∃ z, ψ z ∧ St W (feet (LL y0)) (LX z) W')

theorem Cx.roAll {c : Cx} (ok : c.Ok) {L : List Sp} {w : World} (hs : St c.w0 c.M L w) : ∀ A ∈ c.Ro, A.holds w ∧ ∀ k ∈ A.foot, k ∉ feet L := fun A hA => by
  obtain ⟨i, hi⟩ := List.mem_iff_getElem?.1 hA
  refine ⟨c.ro ok hs hi, fun k hk hk' => ?_⟩
  obtain ⟨h1, h2⟩ := ok A hA
  rcases hs.mine k hk' with h3 | h3
  · have := A.lt _ h1 k hk; omega
  · exact h2 k hk h3
theorem St.own {w0 w : World} {M : List Nat} {L R : List Sp} (h : St w0 M (L ++ R) w) : St w (feet L) L w := by
  have hpw := List.pairwise_append.1 h.nd
  exact ⟨Frame.refl w _, fun A hA => h.at_ A (by simp [hA]), hpw.1, fun k hk => .inr hk⟩
theorem St.back {w0 w w' : World} {M : List Nat} {L L' R : List Sp} (h : St w0 M (L ++ R) w) (h' : St w (feet L) L' w') : St w0 M (L' ++ R) w' :=
  h.step h'.fr h'.at_ h'.nd (fun k hk => (h'.mine k hk).symm)

section
variable {c : Cx} {i : Ci} {k : List It} {E : Env} {L : List Sp} {ops : Array Oper} {rest : List Oper} {ty : TypeId} {d : Nat} {pos : String} {af : Array Edge}
/-- A call of yield: what the rounds own stands behind the iterator's own. -/
theorem OI.yieldN {l m : Nat} {x : Operand} {xs : List Operand} {ts : Array TypeId} {vs : List Value} (R LC : List Sp) {K : Bool → List Sp → Prop} (hdp : i.dp = m) (hro : i.ro = none) (hx : ev E x = some (.func (.yield l) #[] #[])) (hxs : xs.map (ev E) = vs.map some) (hL : L = R ++ LC)
    (hy : c.Ok → ∀ W1, St c.w0 c.M L W1 → St W1 (feet LC) LC W1 → YieldAt (FW none) (m - 1) c.P l vs.toArray W1 fun e W' => ∃ b L', e = .returned (.bool b) ∧ K b L' ∧ St W1 (feet LC) L' W') (hd : Nat.blt d c.n = true)
    (h : ∀ b L', K b L' → OI c i ops rest k ((d, .bool b) :: E) (R ++ L')) : OI c i ops (⟨some d, .call { callee := .value x, args := xs.toArray, argTypes := ts }, ty, pos, af, none⟩ :: rest) k E L := fun ok a w ha hs =>
  wpListIn_plain rfl fun K' hK => by
    subst hdp hL
    have hs1 : St c.w0 c.M (LC ++ R) w := hs.perm List.perm_append_comm
    obtain ⟨fn, tmps, assign, body, hrun, hround⟩ := hy ok w hs hs1.own
    have hxs' : xs.map a.eval = vs := by
      rw [← bare_eval]; exact ha.bare.evs hxs
    have hexec : (execOp a.eval ⟨some d, .call { callee := .value x, args := xs.toArray, argTypes := ts }, ty, pos, af, none⟩).run c.P w = .ok (.round l fn tmps assign body) w := by
      simp [execOp, resolve, Deferred.ofValue, invoke, ha.ev hx, hxs', callFunc, hrun]
    refine ⟨fun _ _ => trivial, ?_⟩
    rw [Oper.semAt_eq i.ro _ _ (noDefer_of rfl), hexec, Oper.uponIn_round, hro]
    refine ⟨fun h => (by cases h), ?_⟩
    refine RoundIn.mono hround ?_
    rintro e W' ⟨b, L', rfl, hk, hst⟩
    exact hK _ _ (h b L' hk ok _ W' (ha.put _ hd) ((hs1.back hst).perm List.perm_append_comm))

/-- A contract of such an iterator, from its body. -/
theorem ItN.enter {P : Program} {gf : Nat} {fn : Func} {body : Code} {lb : List Value} {Ro : List Sp} {nx : List (List Value) → List Value → Prop} {full : List (List Value) → Prop} (n : Nat) (hf : P.funcs[gf]? = some fn) (hb : fn.body = some body) (hn : fn.ntmps = n) (hle : Nat.ble (lb.length + 1) n = true) (hrs : fn.results = #[])
    (h : ∀ (l m : Nat) (X Z : Type) (φ : List (List Value) → X → Prop) (LL : X → List Sp) (ψ : Z → Prop) (LX : Z → List Sp) (Rx : List Sp) (W : World) (y0 : X),
      (∀ A ∈ Ro ++ Rx, A.holds W ∧ ∀ k ∈ A.foot, k ∉ feet (LL y0)) →
      (∀ vs y x W1, φ vs y → nx vs x → (∀ A ∈ Ro ++ Rx, A.holds W1 ∧ ∀ k ∈ A.foot, k ∉ feet (LL y)) → St W1 (feet (LL y)) (LL y) W1 →
        YieldAt (FW none) (m - 1) P l x.toArray W1 fun e W' => (e = .returned (.bool true) ∧ ∃ y', φ (vs ++ [x]) y' ∧ St W1 (feet (LL y)) (LL y') W') ∨ (e = .returned (.bool false) ∧ ∃ z, ψ z ∧ St W1 (feet (LL y)) (LX z) W')) →
      φ [] y0 → ∀ R0 : Exit → Act → World → Prop, (∀ e a w, e = .normal ∨ e = .ret → a.defers = [] → ((∃ vs y, full vs ∧ φ vs y ∧ St W (feet (LL y0)) (LL y) w) ∨ ∃ z, ψ z ∧ St W (feet (LL y0)) (LX z) w) → R0 e a w) →
      ∃ Ro' : List Sp, (∀ A ∈ Ro', A.holds W ∧ ∀ k ∈ A.foot, k ∉ feet (LL y0)) ∧
        JI { P := P, fn := fn, n := n, w0 := W, M := feet (LL y0), Ro := Ro', R := fun _ _ => True } ⟨none, m, [], R0⟩ [.code body] (envOf 0 (.func (.yield l) #[] #[] :: lb)) (LL y0)) : ItN P gf lb.toArray Ro nx full := by
  intro l m X Z φ LL ψ LX Rx W y0 hro hy h0 hst
  have hE : (#[.func (.yield l) #[] #[]] ++ lb.toArray : Array Value) = (.func (.yield l) #[] #[] :: lb : List Value).toArray := by simp
  rw [hE]
  refine callsIn_of_wp hf hb trivial ?_
  obtain ⟨Ro', hok, hj⟩ := h l m X Z φ LL ψ LX Rx W y0 hro hy h0 (bodyPost P fn fun e W' => (∃ v, e = .returned v) ∧ ((∃ vs y, full vs ∧ φ vs y ∧ St W (feet (LL y0)) (LL y) W') ∨ ∃ z, ψ z ∧ St W (feet (LL y0)) (LX z) W')) (fun e a w he hd hJ => by
    have hr : (results fn a.tmps).run P w = .ok (.tuple #[]) w := by
      simp [results, hrs]
    rcases he with rfl | rfl <;> exact ⟨hd, _, hr, ⟨_, rfl⟩, hJ⟩)
  rw [hn]
  exact hj hok _ W (args_has (by simpa using hle)) hst

theorem JI.rangeN {g : Operand} {ps : List Tmp} {assign body : Code} {gf : Nat} {lb : Array Value} {RoI : List Sp} {nx : List (List Value) → List Value → Prop} {full : List (List Value) → Prop} {X Z : Type} (φ : List (List Value) → X → Prop) (LL : X → List Sp) (ψ : Code → Z → Prop) (LX : Z → List Sp)
    (hro : i.ro = none) (hg : ev E g = some (.func (.func gf) #[] lb)) (eg : ∀ args w, (callFunc gf args).run c.P w = .ok (.enter gf args) w) (hit : ItN c.P gf lb RoI nx full) (hps : ∀ vs x, nx vs x → x.length = ps.length) (hpn : ps.all (fun p => Nat.blt p c.n) = true)
    (x0 : X) (h0 : φ [] x0) (is : List Nat) (hn : is.Nodup) (hL : LK.sel L is = LL x0) (hsub : ∀ A ∈ RoI, A ∈ c.Ro)
    (round : ∀ (W1 : World) (M1 : List Nat) (l D : Nat) (rec : LoopState → Option Code → Loop) vs y x, (∀ s p, (rec s p).state = s) → (∀ s p s' p', { rec s p with state := s', pending := p' } = rec s' p') → φ vs y → nx vs x →
      JI { c with w0 := W1, M := M1 } ⟨some l, i.dp - 1 - 1, [], fun _ _ _ => False⟩ [.code assign, .lp (BeginI { c with w0 := W1, M := M1 } ⟨some l, i.dp - 1 - 1, [], RE { c with w0 := W1, M := M1 } rec l D (fun _ y => φ (vs ++ [x]) y) LL ψ LX 0⟩ l body)] (envP ps x E) (LK.blk l (.loop (rec .ready none)) :: LK.blk D (.deferred (some [])) :: LL y))
    (done : ∀ l D r vs y, full vs → φ vs y → JI c { i with ds := { target := .collected D, args := #[] } :: i.ds } k E (LK.blk l (.loop r) :: LK.blk D (.deferred (some [])) :: LL y))
    (stop : ∀ l D r x z, ψ x z → JI c { i with ds := { target := .collected D, args := #[] } :: i.ds } (.code x :: k) E (LK.blk l (.loop r) :: LK.blk D (.deferred (some [])) :: LX z)) :
    JI c i (.code (.rangeFunc g ps.toArray assign body) :: k) E L := fun ok a w ha hs => by
  have hst : St c.w0 c.M (LL x0) w := hL ▸ hs.sel hn
  show (Code.rangeFunc g ps.toArray assign body).wpIn (FW i.ro) i.dp c.P (QI c.P i k) a w
  refine wpIn_rangeFunc ?_
  intro fn _
  obtain ⟨rec, hrec⟩ : ∃ rec : LoopState → Option Code → Loop, rec = fun st pe => loopRec fn a.tmps ps.toArray assign body w.heap.size st pe := ⟨_, rfl⟩
  have hS1 : ∀ s p, (rec s p).state = s := fun s p => by rw [hrec]; rfl
  have hS2 : ∀ s p s' p', { rec s p with state := s', pending := p' } = rec s' p' := fun s p s' p' => by rw [hrec]; rfl
  have hst1 := (hst.alloc (.deferred (some []))).alloc (.loop (rec .ready none))
  rw [World.size_alloc] at hst1
  have hent := run_enterLoop_outer (P := c.P) (w := w) fn a.tmps ps.toArray assign body
  have haD : ∀ D, HasD c.n ({ target := .collected D, args := #[] } :: i.ds) { a with defers := [{ target := .collected D, args := #[] }] ++ a.defers } E := fun D => ⟨ha.size, by rw [ha.defers]; rfl, ha.at_⟩
  refine ⟨w.heap.size + 1, [{ target := .collected w.heap.size, args := #[] }], (w.alloc (.deferred (some []))).alloc (.loop (rec .ready none)), { target := .fn (.func gf) lb, args := #[.func (.yield (w.heap.size + 1)) #[] #[]] }, (w.alloc (.deferred (some []))).alloc (.loop (rec .ready none)), gf,
    #[.func (.yield (w.heap.size + 1)) #[] #[]] ++ lb, (w.alloc (.deferred (some []))).alloc (.loop (rec .ready none)), ?_, ?_, fun _ _ => trivial, ?_, fun h => (by cases h), ?_⟩
  · rw [hrec]
    show (Instr.enterLoop fn a.tmps ps.toArray assign body i.ro).run c.P w = _
    rw [hro]
    exact hent
  · have he : a.eval (.const (.func (.yield (w.heap.size + 1)) #[] #[])) = .func (.yield (w.heap.size + 1)) #[] #[] := rfl
    simp [resolve, Deferred.ofValue, ha.ev hg, he]
  · simp [invoke, eg]
  · have hro' : FW i.ro = FW none := by rw [hro]
    have hst2 : St c.w0 c.M ((LK.blk (w.heap.size + 1) (.loop (rec .ready none)) :: LK.blk w.heap.size (.deferred (some [])) :: LL x0) ++ []) ((w.alloc (.deferred (some []))).alloc (.loop (rec .ready none))) := by rw [List.append_nil]; exact hst1
    have hc := hit (w.heap.size + 1) (i.dp - 1) X (Code × Z) φ (fun y => LK.blk (w.heap.size + 1) (.loop (rec .ready none)) :: LK.blk w.heap.size (.deferred (some [])) :: LL y) (fun z => ψ z.1 z.2) (fun z => LK.blk (w.heap.size + 1) (.loop (rec .done (some z.1))) :: LK.blk w.heap.size (.deferred (some [])) :: LX z.2) c.Ro ((w.alloc (.deferred (some []))).alloc (.loop (rec .ready none))) x0
      (fun A hA => by
        have hA' : A ∈ c.Ro := by
          rcases List.mem_append.1 hA with h | h
          · exact hsub A h
          · exact h
        exact Cx.roAll ok hst1 A hA')
      (fun vs y x W1 hy hx hR hW => by
        have hl : W1.heap[w.heap.size + 1]? = some (.loop (rec .ready none)) := hW.at_ (LK.blk (w.heap.size + 1) (.loop (rec .ready none))) (by simp)
        have hyl := run_yield (P := c.P) (args := x.toArray) hl (by rw [hrec]; simp [loopRec, hps vs x hx])
        have hst2 := round W1 (feet (LK.blk (w.heap.size + 1) (.loop (rec .ready none)) :: LK.blk w.heap.size (.deferred (some [])) :: LL y)) (w.heap.size + 1) w.heap.size rec vs y x hS1 hS2 hy hx (fun A hA => hR A (List.mem_append.2 (.inr hA))) { tmps := (ps.zip x).foldl (fun t (p, v) => t.setIfInBounds p v) a.tmps, defers := [] } W1 (has_params (List.all_eq_true.1 hpn) ⟨ha.size, rfl, ha.at_⟩ (hps vs x hx)) hW
        have e1 : (rec .ready none).fn = fn := by rw [hrec]; rfl
        have e2 : (rec .ready none).params = ps.toArray := by rw [hrec]; rfl
        have e3 : (rec .ready none).assign = assign := by rw [hrec]; rfl
        have e4 : (rec .ready none).body = body := by rw [hrec]; rfl
        have e5 : (rec .ready none).tmps = a.tmps := by rw [hrec]; rfl
        rw [e1, e2, e3, e4, e5] at hyl
        have e6 : (ps.toArray.zip x.toArray).foldl (fun t (p, v) => t.setIfInBounds p v) a.tmps = (ps.zip x).foldl (fun t (p, v) => t.setIfInBounds p v) a.tmps := by simp
        rw [e6] at hyl
        have hri : RoundIn (FW none) (i.dp - 1 - 1) c.P (w.heap.size + 1) fn ((ps.zip x).foldl (fun t (p, v) => t.setIfInBounds p v) a.tmps) assign body W1 (fun e W' => (e = .returned (.bool true) ∧ JK { c with w0 := W1, M := feet (LK.blk (w.heap.size + 1) (.loop (rec .ready none)) :: LK.blk w.heap.size (.deferred (some [])) :: LL y) } rec (w.heap.size + 1) w.heap.size (fun _ y => φ (vs ++ [x]) y) LL (0 + 1) W') ∨ (e = .returned (.bool false) ∧ JX { c with w0 := W1, M := feet (LK.blk (w.heap.size + 1) (.loop (rec .ready none)) :: LK.blk w.heap.size (.deferred (some [])) :: LL y) } rec (w.heap.size + 1) w.heap.size ψ LX W')) := roundIn_of_wpIn trivial hst2
        refine ⟨fn, _, assign, body, hyl, RoundIn.mono hri ?_⟩
        rintro e W' (⟨rfl, y', hy', hs'⟩ | ⟨rfl, x', z, hz, hs'⟩)
        · exact .inl ⟨rfl, y', hy', hs'⟩
        · exact .inr ⟨rfl, (x', z), hz, hs'⟩)
      h0 hst2.own
    rw [hro']
    refine hc.mono ?_
    rintro e W' ⟨⟨v, rfl⟩, hJ⟩
    rcases hJ with ⟨vs, y, hfull, hy, hW0⟩ | ⟨⟨x, z⟩, hz, hW0⟩
    · have hW : St c.w0 c.M (LK.blk (w.heap.size + 1) (.loop (rec .ready none)) :: LK.blk w.heap.size (.deferred (some [])) :: LL y) W' := by
        have := hst2.back hW0
        rwa [List.append_nil] at this
      have hl : W'.heap[w.heap.size + 1]? = some (.loop (rec .ready none)) := hW.at_ (LK.blk (w.heap.size + 1) (.loop (rec .ready none))) (by simp)
      have he := run_endLoop (P := c.P) hl (by rw [hS1]; decide)
      have e1 : (rec .ready none).pending = none := by rw [hrec]; rfl
      rw [e1] at he
      refine ⟨none, _, he, ?_⟩
      have := done (w.heap.size + 1) w.heap.size { rec .ready none with state := .exhausted, pending := none } vs y hfull hy ok _ _ (haD w.heap.size) (hW.putObj (i := 0) (o' := .loop { rec .ready none with state := .exhausted, pending := none }) rfl)
      rw [QI_ds] at this
      exact this
    · have hW : St c.w0 c.M (LK.blk (w.heap.size + 1) (.loop (rec .done (some x))) :: LK.blk w.heap.size (.deferred (some [])) :: LX z) W' := by
        have := hst2.back hW0
        rwa [List.append_nil] at this
      have hl : W'.heap[w.heap.size + 1]? = some (.loop (rec .done (some x))) := hW.at_ (LK.blk (w.heap.size + 1) (.loop (rec .done (some x)))) (by simp)
      have he := run_endLoop (P := c.P) hl (by rw [hS1]; decide)
      have e1 : (rec .done (some x)).pending = some x := by rw [hrec]; rfl
      rw [e1] at he
      refine ⟨some x, _, he, ?_⟩
      have := stop (w.heap.size + 1) w.heap.size { rec .done (some x) with state := .exhausted, pending := some x } x z hz ok _ _ (haD w.heap.size) (hW.putObj (i := 0) (o' := .loop { rec .done (some x) with state := .exhausted, pending := some x }) rfl)
      show x.wpIn (FW none) i.dp c.P (QI c.P i k) _ _
      have h2 : x.wpIn (FW i.ro) i.dp c.P (QI c.P { i with ds := { target := .collected w.heap.size, args := #[] } :: i.ds } k) { a with defers := [{ target := .collected w.heap.size, args := #[] }] ++ a.defers } _ := this
      rw [QI_ds, hro'] at h2
      exact h2
end
end Go.LK

namespace Go.LK
open Go Go.RowKit

theorem YieldAt.weak {F : Fence} {m : Nat} {P : Program} {l : Nat} {args : Array Value} {W : World} {R R' : Ending → World → Prop} (h : YieldAt F m P l args W R) (hR : ∀ e w, R e w → R' e w) : YieldAt F m P l args W R' := by
  obtain ⟨fn, tmps, assign, body, h1, h2⟩ := h
  exact ⟨fn, tmps, assign, body, h1, RoundIn.mono h2 hR⟩

section
variable {α : Type} {f : α → Value} {m : List (Int × α)} {arr : Array MapEntry} {clock : Nat} {seen : Array Nat} {ks : List Int} {en : MapEntry}
theorem MapI.key (h : MapI f m arr clock) (he : en ∈ arr.toList) : ∃ k v, en.key = .int .i64 k ∧ en.val = f v ∧ (k, v) ∈ m := by
  have : (en.key, en.val) ∈ m.map (fun p => (Value.int .i64 p.1, f p.2)) := by rw [← h.eq]; exact List.mem_map.2 ⟨en, he, rfl⟩
  obtain ⟨p, hp, he2⟩ := List.mem_map.1 this
  simp only [Prod.mk.injEq] at he2
  exact ⟨p.1, p.2, he2.1.symm, he2.2.symm, hp⟩
theorem map_inj {β γ : Type} {g : β → γ} : ∀ {l : List β}, (l.map g).Nodup → ∀ {a b : β}, a ∈ l → b ∈ l → g a = g b → a = b
  | x :: l, h, a, b, ha, hb, e => by
    have h' := List.nodup_cons.1 h
    rcases List.mem_cons.1 ha with h1 | h1 <;> rcases List.mem_cons.1 hb with h2 | h2
    · rw [h1, h2]
    · exact absurd (List.mem_map.2 ⟨b, h2, by rw [← e, h1]⟩) h'.1
    · exact absurd (List.mem_map.2 ⟨a, h1, by rw [e, h2]⟩) h'.1
    · exact map_inj h'.2 h1 h2 e
theorem MapI.one (h : MapI f m arr clock) {a b : MapEntry} (ha : a ∈ arr.toList) (hb : b ∈ arr.toList) (hk : a.key = b.key) : a = b := by
  have hn : (arr.toList.map (·.key)).Nodup := by
    have : arr.toList.map (·.key) = (keysI m).map (Value.int .i64) := by
      have := congrArg (List.map Prod.fst) h.eq
      simpa [List.map_map, Function.comp_def, keysI] using this
    rw [this]
    exact List.Pairwise.map _ (fun a b hab e => hab (by simpa using e)) h.keys
  exact map_inj hn ha hb hk
/-- Those that a range has met. -/
structure Walk (m : List (Int × α)) (arr : Array MapEntry) (seen : Array Nat) (ks : List Int) : Prop where
  nd : ks.Nodup
  iff : ∀ en ∈ arr.toList, ∀ k, en.key = .int .i64 k → (seen.contains en.born = true ↔ k ∈ ks)
  sub : ∀ k ∈ ks, k ∈ keysI m
theorem Walk.nil : Walk m arr #[] [] := ⟨by simp, fun en _ k _ => by simp, by simp⟩
theorem Walk.next (hM : MapI f m arr clock) (h : Walk m arr seen ks) (hen : en ∈ (leftOf arr seen).toList) : ∃ k v, en.key = .int .i64 k ∧ en.val = f v ∧ (k, v) ∈ m ∧ k ∉ ks ∧ Walk m arr (seen.push en.born) (ks ++ [k]) := by
  obtain ⟨he, hs⟩ := mem_left hen
  obtain ⟨k, v, hk, hv, hkv⟩ := hM.key he
  have hkn : k ∉ ks := fun hin => by
    have := (h.iff en he k hk).2 hin
    rw [hs] at this; cases this
  refine ⟨k, v, hk, hv, hkv, hkn, List.nodup_append.2 ⟨h.nd, by simp, fun a ha b hb => by simp at hb; subst hb; exact fun e => hkn (e ▸ ha)⟩, fun en' he' k' hk' => ?_, fun k' hk' => ?_⟩
  · rw [contains_push, List.mem_append, List.mem_singleton, Bool.or_eq_true, h.iff en' he' k' hk', beq_iff_eq]
    constructor
    · rintro (h1 | h1)
      · exact .inl h1
      · have : en' = en := born_inj hM.born he' he h1
        subst this
        rw [hk] at hk'; cases hk'
        exact .inr rfl
    · rintro (h1 | h1)
      · exact .inl h1
      · subst h1
        have : en' = en := hM.one he' he (by rw [hk', hk])
        subst this
        exact .inr rfl
  · rcases List.mem_append.1 hk' with h1 | h1
    · exact h.sub k' h1
    · simp at h1; subst h1
      exact List.mem_map.2 ⟨_, hkv, rfl⟩
theorem Walk.full (hM : MapI f m arr clock) (h : Walk m arr seen ks) (h0 : (leftOf arr seen).size = 0) : ks.Perm (keysI m) := by
  refine (List.perm_ext_iff_of_nodup h.nd hM.keys).2 fun k => ⟨h.sub k, fun hk => ?_⟩
  obtain ⟨p, hp, rfl⟩ := List.mem_map.1 hk
  have : (Value.int .i64 p.1, f p.2) ∈ arr.toList.map (fun e => (e.key, e.val)) := by rw [hM.eq]; exact List.mem_map.2 ⟨p, hp, rfl⟩
  obtain ⟨en, he, hee⟩ := List.mem_map.1 this
  simp only [Prod.mk.injEq] at hee
  exact (h.iff en he p.1 hee.1).1 (all_seen arr seen h0 en he)
def kyNx (m : List (Int × α)) (vs : List (List Value)) (x : List Value) : Prop := ∃ k, k ∈ keysI m ∧ x = [.int .i64 k] ∧ x ∉ vs
def kyFull (m : List (Int × α)) (vs : List (List Value)) : Prop := ∃ ks : List Int, vs = ks.map (fun k => [Value.int .i64 k]) ∧ ks.Perm (keysI m)
theorem ky_not {ks : List Int} {k : Int} (h : k ∉ ks) : [Value.int .i64 k] ∉ ks.map (fun k => [Value.int .i64 k]) := fun hm => by
  obtain ⟨j, hj, he⟩ := List.mem_map.1 hm
  simp at he; subst he; exact h hj
theorem ky_app {ks : List Int} {k : Int} : (ks ++ [k]).map (fun k => [Value.int .i64 k]) = ks.map (fun k => [Value.int .i64 k]) ++ [[Value.int .i64 k]] := by simp
end
theorem sel_range : ∀ (L : List Sp), LK.sel L (List.range L.length) = L
  | [] => rfl
  | A :: L => by
    have ih := sel_range L
    unfold LK.sel at ih ⊢
    rw [List.length_cons, List.range_succ_eq_map, List.filterMap_cons, List.filterMap_map]
    simp only [List.getElem?_cons_zero, Function.comp_def, List.getElem?_cons_succ]
    rw [ih]
theorem sel_all {A : Sp} (L : List Sp) : LK.sel (A :: L) (List.range L.length.succ) = A :: L := sel_range (A :: L)
end Go.LK

namespace Go.LK
open Go Go.RowKit

section
variable {c : Cx} {E : Env} {ty T : TypeId} {x : Operand}
theorem Pu.ptrNe {e : TypeId} {ad : Addr} (hT : c.P.underlying T = some (.pointer e)) (hx : ev E x = some (.pointer (some ad))) : Pu c E (.binOp .neq T x (.const (.pointer none)) T) ty (.bool true) := fun a w h _ _ _ _ => by
  have h3 : ∀ d, (Op.equalIn (d + 1) T (.pointer (some ad)) (.pointer none)).run c.P w = .ok false w := fun d => by simp [Op.equalIn, run_underlying hT]
  have h4 : (binOp .neq T (.pointer (some ad)) (.pointer none)).run c.P w = .ok (.bool true) w := by
    simp only [binOp]
    simp [Op.equal, Op.maxDepth, h3 9999]
  have h5 : eqGuard .neq T x (.const (.pointer none)) (.pointer (some ad)) (.pointer none) = pure () := by cases x <;> rfl
  have h2 : a.eval (.const (.pointer none)) = .pointer none := rfl
  simp only [execOp, h.ev hx, h2, h5]
  simp [h4]
theorem Pu.ptrNeNil {e : TypeId} (hT : c.P.underlying T = some (.pointer e)) (hx : ev E x = some (.pointer none)) : Pu c E (.binOp .neq T x (.const (.pointer none)) T) ty (.bool false) := fun a w h _ _ _ _ => by
  have h3 : ∀ d, (Op.equalIn (d + 1) T (.pointer none) (.pointer none)).run c.P w = .ok true w := fun d => by simp [Op.equalIn, run_underlying hT]
  have h4 : (binOp .neq T (.pointer none) (.pointer none)).run c.P w = .ok (.bool false) w := by
    simp only [binOp]
    simp [Op.equal, Op.maxDepth, h3 9999]
  have h5 : eqGuard .neq T x (.const (.pointer none)) (.pointer none) (.pointer none) = pure () := by cases x <;> rfl
  have h2 : a.eval (.const (.pointer none)) = .pointer none := rfl
  simp only [execOp, h.ev hx, h2, h5]
  simp [h4]
end

theorem JI.nilRow {c : Cx} {i : Ci} {k : List It} {E : Env} {L : List Sp} (t : TypeId) (s : Nat) (h : JI c i k E (row (.slice none 0 0) t s [] :: L)) : JI c i k E L := fun ok a w ha hs =>
  h ok a w ha (hs.add (Frame.refl w _) ⟨World.ownsRow_nil w 0 t s, by simp⟩ (by simp [row, Value.ownBlock]))
theorem OI.one {c : Cx} {i : Ci} {k : List It} {E : Env} {L : List Sp} {ops : Array Oper} {rest : List Oper} {V : Value} {sz : Nat} {els : List (List Value)} (hs : Src c L V sz els) (h : V.oneCell' = true → OI c i ops rest k E L) : OI c i ops rest k E L := fun ok a w ha hst =>
  h (elt_one (hs ok w hst)) ok a w ha hst
theorem miV_nil {α : Type} {f : α → Value} {w : World} : (miV (.map none) f []).holds w := Or.inl ⟨rfl, rfl⟩
theorem miV_foot {α : Type} {f : α → Value} {k : Nat} (h : k ∈ (miV (.map none) f []).foot) : False := by
  have h2 : k ∈ ([] : List Nat) := h
  cases h2
theorem RoOk.nilM {c : Cx} {L LC RoC : List Sp} {α : Type} {f : α → Value} (h : RoOk c L LC RoC) : RoOk c L LC (miV (.map none) f [] :: RoC) := fun ok w hs A hA => by
  rcases List.mem_cons.1 hA with rfl | hA
  · exact ⟨miV_nil, fun k hk => (miV_foot hk).elim⟩
  · exact h ok w hs A hA
theorem ky_inj : ∀ {a b : List Int}, a.map (fun k => [Value.int .i64 k]) = b.map (fun k => [Value.int .i64 k]) → a = b
  | [], [], _ => rfl
  | [], _ :: _, h => by simp at h
  | _ :: _, [], h => by simp at h
  | x :: a, y :: b, h => by
    rw [List.map_cons, List.map_cons, List.cons.injEq] at h
    obtain ⟨h1, h2⟩ := h
    have : x = y := by simpa using h1
    rw [this, ky_inj h2]
theorem kyFull_of {α : Type} {m : List (Int × α)} {ks : List Int} {vs : List (List Value)} (h : kyFull m vs) (hv : vs = ks.map fun k => [Value.int .i64 k]) : ks.Perm (keysI m) := by
  obtain ⟨ks', h1, h2⟩ := h
  rw [← ky_inj (h1.symm.trans hv)]; exact h2
theorem nodup_len : ∀ {ks l : List Int}, ks.Nodup → (∀ k ∈ ks, k ∈ l) → ks.length ≤ l.length
  | [], _, _, _ => by simp
  | k :: ks, l, hn, hs => by
    have hn' := List.nodup_cons.1 hn
    have hk : k ∈ l := hs k (by simp)
    have ih := nodup_len (ks := ks) (l := l.erase k) hn'.2 fun x hx => (List.mem_erase_of_ne (fun e => hn'.1 (by rw [← e]; exact hx))).2 (hs x (by simp [hx]))
    rw [List.length_erase_of_mem hk] at ih
    have := List.length_pos_of_mem hk
    simp only [List.length_cons]; omega
/-- What a range over keys has met so far. -/
def KMet {α : Type} (m : List (Int × α)) (vs : List (List Value)) (ks : List Int) : Prop := vs = ks.map (fun k => [Value.int .i64 k]) ∧ ks.Nodup ∧ ∀ k ∈ ks, k ∈ keysI m
theorem KMet.nil {α : Type} {m : List (Int × α)} : KMet m [] [] := ⟨rfl, by simp, by simp⟩
theorem KMet.next {α : Type} {m : List (Int × α)} {vs : List (List Value)} {ks : List Int} {k : Int} (h : KMet m vs ks) (hk : k ∈ keysI m) (hn : [Value.int .i64 k] ∉ vs) : KMet m (vs ++ [[Value.int .i64 k]]) (ks ++ [k]) := by
  obtain ⟨h1, h2, h3⟩ := h
  have hkn : k ∉ ks := fun hi => hn (by rw [h1]; exact List.mem_map.2 ⟨k, hi, rfl⟩)
  refine ⟨by rw [ky_app, h1], List.nodup_append.2 ⟨h2, by simp, fun a ha b hb => by simp at hb; subst hb; exact fun e => hkn (e ▸ ha)⟩, fun x hx => ?_⟩
  rcases List.mem_append.1 hx with hx | hx
  · exact h3 x hx
  · simp at hx; subst hx; exact hk
theorem KMet.len {α : Type} {m : List (Int × α)} {vs : List (List Value)} {ks : List Int} (h : KMet m vs ks) : ks.length ≤ m.length := by
  have := nodup_len h.2.1 h.2.2
  simpa [keysI] using this

theorem Frame.more {w w' : World} {M M' : List Nat} (h : Frame w M w') (hs : ∀ k ∈ M, k ∈ M') : Frame w M' w' := ⟨h.os, h.tape, h.output, h.size, fun k hk hn => h.old k hk fun hm => hn (hs k hm)⟩
theorem Re.footSub {L L1 : List Sp} (h : Re L L1) {w : World} (hs : St w (feet L) L w) : ∀ k ∈ LK.feet L1, k ∈ LK.feet L := fun k hk => by
  have h1 := h w _ w hs
  rcases h1.mine k hk with h2 | h2
  · have := h1.lt k hk; omega
  · exact h2
/-- A contract, said of atoms that tell the same in other words. -/
theorem Tri.conv {P : Program} {f : FuncId} {args : Array Value} {Ro L L1 : List Sp} {post1 post : Value → List Sp → Prop} (h : Tri P f args Ro L1 post1) (h1 : Re L L1) (h2 : ∀ v L', post1 v L' → ∃ L2, post v L2 ∧ Re L' L2) : Tri P f args Ro L post := fun w hro hst => by
  have hs1 := h1 w _ w hst
  have hft := h1.footSub hst
  have hown : St w (feet L1) L1 w := ⟨Frame.refl w _, hs1.at_, hs1.nd, fun k hk => .inr hk⟩
  refine (h w (fun A hA => ⟨(hro A hA).1, fun k hk hk' => (hro A hA).2 k hk (hft k hk')⟩) hown).mono ?_
  rintro e w' ⟨v, L', rfl, hp, hs'⟩
  obtain ⟨L2, hp2, hr⟩ := h2 v L' hp
  refine ⟨v, L2, rfl, hp2, hr w _ w' ⟨hs'.fr.more hft, hs'.at_, hs'.nd, fun k hk => ?_⟩⟩
  rcases hs'.mine k hk with h3 | h3
  · exact .inl h3
  · exact .inr (hft k h3)
/-- An atom, said in other words. -/
theorem Re.imp {A B : Sp} {L : List Sp} (h : ∀ w, A.holds w → B.holds w) (hf : B.foot = A.foot) : Re (A :: L) (B :: L) := fun w0 M w hs => by
  have hfe : feet (B :: L) = feet (A :: L) := by rw [feet_cons, feet_cons, hf]
  refine ⟨hs.fr, fun C hC => ?_, ?_, fun k hk => hs.mine k (hfe ▸ hk)⟩
  · rcases List.mem_cons.1 hC with rfl | hC
    · exact h w (hs.at_ A (by simp))
    · exact hs.at_ C (by simp [hC])
  · have := List.pairwise_cons.1 hs.nd
    refine List.pairwise_cons.2 ⟨fun C hC k hk => this.1 C hC k (hf ▸ hk), this.2⟩
section
variable {P : Program} {f : FuncId} {args : Array Value} {Ro Ro1 L : List Sp} {post post1 : Value → List Sp → Prop}
theorem Tri.weak (h : Tri P f args Ro L post1) (hp : ∀ v L', post1 v L' → post v L') : Tri P f args Ro L post := fun w hro hst => (h w hro hst).mono fun _ _ ⟨v, L', he, hp1, hs⟩ => ⟨v, L', he, hp v L' hp1, hs⟩
end
end Go.LK
