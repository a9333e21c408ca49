/-
  Several texts in one: Lk30, Lk31, Lk32, Lk33, Lk34.
-/
import Derived.Test.YtnhfgnnpbipcnaaGreatDoorLkD
import Derived.Maps.RangeRun
namespace Go.LK
open Go Go.RowKit

section
variable {α : Type}
def putI : List (Int × α) → Int → α → List (Int × α)
  | [], k, v => [(k, v)]
  | p :: m, k, v => if p.1 = k then (k, v) :: m else p :: putI m k v
def atI : List (Int × α) → Int → Nat → Option (Nat × α)
  | [], _, _ => none
  | p :: m, k, i => if p.1 = k then some (i, p.2) else atI m k (i + 1)
def keysI (m : List (Int × α)) : List Int := m.map (·.1)
theorem atI_some {m : List (Int × α)} {k : Int} : ∀ {i j : Nat} {v u : α}, atI m k i = some (j, v) → ∃ n, j = i + n ∧ n < m.length ∧ (m[n]?).map (·.1) = some k ∧ putI m k u = m.set n (k, u) := by
  induction m with
  | nil => intro i j v u h; simp [atI] at h
  | cons p m ih =>
    intro i j v u h
    simp only [atI] at h
    by_cases hp : p.1 = k
    · rw [if_pos hp] at h
      simp at h
      exact ⟨0, by omega, by simp, by simp [hp], by simp [putI, hp]⟩
    · rw [if_neg hp] at h
      obtain ⟨n, h1, h2, h3, h4⟩ := ih (u := u) h
      exact ⟨n + 1, by omega, by simp; omega, by simpa using h3, by simp [putI, hp, h4]⟩
theorem atI_none {m : List (Int × α)} {k : Int} : ∀ {i : Nat} {u : α}, atI m k i = none → putI m k u = m ++ [(k, u)] ∧ k ∉ keysI m := by
  induction m with
  | nil => intro i u _; exact ⟨rfl, by simp [keysI]⟩
  | cons p m ih =>
    intro i u h
    simp only [atI] at h
    by_cases hp : p.1 = k
    · rw [if_pos hp] at h; cases h
    · rw [if_neg hp] at h
      obtain ⟨h1, h2⟩ := ih (u := u) h
      refine ⟨by simp [putI, hp, h1], ?_⟩
      simp only [keysI, List.map_cons, List.mem_cons, not_or]
      exact ⟨fun e => hp e.symm, h2⟩
theorem keysI_cons {p : Int × α} {m : List (Int × α)} : keysI (p :: m) = p.1 :: keysI m := rfl
theorem keys_put_in {m : List (Int × α)} {k : Int} {v : α} (h : k ∈ keysI m) : keysI (putI m k v) = keysI m := by
  induction m with
  | nil => simp [keysI] at h
  | cons p m ih =>
    simp only [putI]
    by_cases hp : p.1 = k
    · rw [if_pos hp, keysI_cons, keysI_cons, hp]
    · rw [if_neg hp, keysI_cons, keysI_cons]
      rw [keysI_cons, List.mem_cons] at h
      rcases h with h | h
      · exact absurd h.symm hp
      · rw [ih h]
theorem keys_put_out {m : List (Int × α)} {k : Int} {v : α} (h : k ∉ keysI m) : keysI (putI m k v) = keysI m ++ [k] := by
  induction m with
  | nil => rfl
  | cons p m ih =>
    rw [keysI_cons, List.mem_cons, not_or] at h
    simp only [putI]
    rw [if_neg (fun e => h.1 e.symm), keysI_cons, keysI_cons, ih h.2]
    rfl
theorem nodup_put {m : List (Int × α)} {k : Int} {v : α} (h : (keysI m).Nodup) : (keysI (putI m k v)).Nodup := by
  by_cases hk : k ∈ keysI m
  · rw [keys_put_in hk]; exact h
  · rw [keys_put_out hk]
    exact List.nodup_append.2 ⟨h, by simp, fun a ha b hb => by simp at hb; subst hb; exact fun e => hk (e ▸ ha)⟩
theorem atM_I {f : α → Value} (m : List (Int × α)) (k : Int) : ∀ i, atM (m.map fun p => ([p.1], f p.2)) [k] i = (atI m k i).map fun q => (q.1, f q.2) := by
  induction m with
  | nil => intro i; rfl
  | cons p m ih =>
    intro i
    simp only [List.map_cons, atM, atI, List.cons.injEq, and_true]
    split
    · rfl
    · exact ih (i + 1)
end

/-- What a map's block holds. -/
structure MapI {α : Type} (f : α → Value) (m : List (Int × α)) (arr : Array MapEntry) (clock : Nat) : Prop where
  eq : arr.toList.map (fun e => (e.key, e.val)) = m.map (fun p => (Value.int .i64 p.1, f p.2))
  keys : (keysI m).Nodup
  born : (arr.toList.map (·.born)).Nodup
  old : ∀ x ∈ arr.toList, x.born < clock
/-- A map of integers' keys, of the call's own or to be read. -/
def mi {α : Type} (b : Nat) (f : α → Value) (m : List (Int × α)) : Sp where
  foot := [b]
  holds w := ∃ arr clock, w.heap[b]? = some (.map arr clock) ∧ MapI f m arr clock
  lt w h k hk := by
    obtain ⟨arr, clock, h1, _⟩ := h
    simp at hk; subst hk
    exact (Array.getElem?_eq_some_iff.1 h1).1
  loc w w' hw h := by
    obtain ⟨arr, clock, h1, h2⟩ := h
    exact ⟨arr, clock, by rw [hw b (by simp)]; exact h1, h2⟩
/-- A map, named by its value: nil, or a block. -/
def miV {α : Type} (v : Value) (f : α → Value) (m : List (Int × α)) : Sp where
  foot := match v with | .map (some b) => [b] | _ => []
  holds w := (v = .map none ∧ m = []) ∨ ∃ b, v = .map (some b) ∧ (mi b f m).holds w
  lt w h k hk := by
    rcases h with ⟨rfl, _⟩ | ⟨b, rfl, h⟩
    · simp at hk
    · exact (mi b f m).lt w h k hk
  loc w w' hw h := by
    rcases h with h | ⟨b, rfl, h⟩
    · exact .inl h
    · exact .inr ⟨b, rfl, (mi b f m).loc w w' hw h⟩

section
variable {α : Type} {f : α → Value} {m : List (Int × α)} {arr : Array MapEntry} {clock : Nat}
theorem MapI.len (h : MapI f m arr clock) : arr.size = m.length := by
  have := congrArg List.length h.eq
  simpa using this
theorem MapI.find {P : Program} {t : TypeId} (h : MapI f m arr clock) (ht : P.underlying t = some (.int .i64)) (w : World) (k : Int) : (Instr.findKey t (.int .i64 k) arr.toList).run P w = .ok ((atI m k 0).map fun q => (q.1, f q.2)) w := by
  have h1 := (KT.int ht).find w [k] arr.toList (m.map fun p => ([p.1], f p.2)) (by rw [h.eq, List.map_map]; rfl) rfl (fun p hp => by obtain ⟨q, _, rfl⟩ := List.mem_map.1 hp; rfl)
  rw [atM_I] at h1
  exact h1
theorem MapI.put (h : MapI f m arr clock) (k : Int) (u : α) : match atI m k 0 with
    | some (j, _) => j < arr.size ∧ (arr[j]?).map (·.key) = some (.int .i64 k) ∧ MapI f (putI m k u) (arr.modify j fun e => { e with key := .int .i64 k, val := f u }) clock
    | none => MapI f (putI m k u) (arr.push { key := .int .i64 k, val := f u, born := clock }) (clock + 1) := by
  have hlen := h.len
  cases hat : atI m k 0 with
  | none =>
    obtain ⟨hs, hk⟩ := atI_none (u := u) hat
    refine ⟨?_, nodup_put h.keys, ?_, ?_⟩
    · rw [hs]; simp [h.eq]
    · rw [Array.toList_push, List.map_append]
      refine List.nodup_append.2 ⟨h.born, by simp, fun a ha b hb => ?_⟩
      obtain ⟨x, hx, rfl⟩ := List.mem_map.1 ha
      simp at hb; subst hb
      have := h.old x hx
      omega
    · intro x hx
      rw [Array.toList_push, List.mem_append] at hx
      rcases hx with hx | hx
      · have := h.old x hx; omega
      · simp at hx; subst hx; simp
  | some p =>
    obtain ⟨j, v⟩ := p
    obtain ⟨q, hj, hq, hqk, hs⟩ := atI_some (u := u) hat
    have hjq : j = q := by omega
    subst hjq
    have hja : j < arr.size := by omega
    have h4 : (arr.toList.map (fun e => (e.key, e.val)))[j]? = (m.map (fun p => (Value.int .i64 p.1, f p.2)))[j]? := by rw [h.eq]
    rw [List.getElem?_map, List.getElem?_map, Array.getElem?_toList, Array.getElem?_eq_getElem hja, List.getElem?_eq_getElem hq] at h4
    rw [List.getElem?_eq_getElem hq] at hqk
    simp at h4 hqk
    have hb : (arr.modify j fun e => { e with key := Value.int .i64 k, val := f u }).toList.map (·.born) = arr.toList.map (·.born) := by
      apply List.ext_getElem?
      intro i
      simp only [List.getElem?_map, Array.getElem?_toList, Array.getElem?_modify]
      by_cases hij : j = i
      · subst hij; simp [hja]
      · simp [hij]
    refine ⟨hja, by rw [Array.getElem?_eq_getElem hja]; simp [h4.1, hqk], ?_, nodup_put h.keys, by rw [hb]; exact h.born, ?_⟩
    · rw [hs]
      apply List.ext_getElem?
      intro i
      have h5 : (arr.toList.map (fun e => (e.key, e.val)))[i]? = (m.map (fun p => (Value.int .i64 p.1, f p.2)))[i]? := by rw [h.eq]
      simp only [List.getElem?_map, Array.getElem?_toList, Array.getElem?_modify, List.getElem?_set] at h5 ⊢
      by_cases hij : j = i
      · subst hij
        simp [hja, hq]
      · simp [hij, h5]
    · intro x hx
      have hx2 : x.born ∈ (arr.modify j fun e => { e with key := Value.int .i64 k, val := f u }).toList.map (·.born) := List.mem_map.2 ⟨x, hx, rfl⟩
      rw [hb] at hx2
      obtain ⟨y, hy, he⟩ := List.mem_map.1 hx2
      rw [← he]; exact h.old y hy
theorem MapI.nil : MapI f [] #[] clock := ⟨rfl, by simp [keysI], by simp, by simp⟩
end

section
variable {α : Type} {f : α → Value} {m : List (Int × α)} {c : Cx} {E : Env} {L : List Sp} {ty T k e : TypeId} {x y z : Operand} {b : Nat}
/-- Where a map's cells are known: among what is owned, or may be read; or nil. -/
inductive Mc (c : Cx) (L : List Sp) (v : Value) {α : Type} (f : α → Value) (m : List (Int × α)) : Prop
  | own (i : Nat) (b : Nat) (hv : v = .map (some b)) (hi : L[i]? = some (mi b f m))
  | ro (i : Nat) (b : Nat) (hv : v = .map (some b)) (hi : c.Ro[i]? = some (mi b f m))
  | nil (hv : v = .map none) (hm : m = [])
  | roV (i : Nat) (hi : c.Ro[i]? = some (miV v f m))
theorem Mc.holds {v : Value} (h : Mc c L v f m) (ok : c.Ok) {w : World} (hs : St c.w0 c.M L w) : (miV v f m).holds w := by
  cases h with
  | own i b hv hi => exact .inr ⟨b, hv, hs.at_ _ (List.mem_of_getElem? hi)⟩
  | ro i b hv hi => exact .inr ⟨b, hv, c.ro ok hs hi⟩
  | nil hv hm => exact .inl ⟨hv, hm⟩
  | roV i hi => exact c.ro ok hs hi
end
end Go.LK

namespace Go.LK
open Go Go.RowKit

section
variable {α : Type} {f : α → Value} {m : List (Int × α)} {c : Cx} {E : Env} {L : List Sp} {ty T k e : TypeId} {x y z : Operand} {b : Nat}

/-! ### A range over a map that is read -/
end
end Go.LK

namespace Go.LK
open Go Go.RowKit

/-- The iterator gf (with what it has caught, lb) calls yield: on x behind those of vs where 'nx vs x'; where it ends by itself, 'full' holds of all. What it reads is in Ro; what the rounds own it leaves alone. -/
def ItN (P : Program) (gf : Nat) (lb : Array Value) (Ro : List Sp) (nx : List (List Value) → List Value → Prop) (full : List (List Value) → Prop) : Prop :=
  ∀ (l m : Nat) (X Z : Type) (φ : List (List Value) → X → Prop) (LL : X → List Sp) (ψ : Z → Prop) (LX : Z → List Sp) (Rx : List Sp) (W : World) (y0 : X),
    (∀ A ∈ Ro ++ Rx, A.holds W ∧ ∀ k ∈ A.foot, k ∉ feet (LL y0)) →
    (∀ vs y x W1, φ vs y → nx vs x → (∀ A ∈ Ro ++ Rx, A.holds W1 ∧ ∀ k ∈ A.foot, k ∉ feet (LL y)) → St W1 (feet (LL y)) (LL y) W1 →
      YieldAt (FW none) (m - 1) P l x.toArray W1 fun e W' => (e = .returned (.bool true) ∧ ∃ y', φ (vs ++ [x]) y' ∧ St W1 (feet (LL y)) (LL y') W') ∨ (e = .returned (.bool false) ∧ ∃ z, ψ z ∧ St W1 (feet (LL y)) (LX z) W')) →
    φ [] y0 → St W (feet (LL y0)) (LL y0) W →
    CallsIn (FW none) m P gf (#[.func (.yield l) #[] #[]] ++ lb) W fun e W' => (∃ v, e = .returned v) ∧ ((∃ vs y, full vs ∧ φ vs y ∧ St W (feet (LL y0)) (LL y) W') ∨ ∃ z, ψ z ∧ St W (feet (LL y0)) (LX z) W')

theorem St.own {w0 w : World} {M : List Nat} {L R : List Sp} (h : St w0 M (L ++ R) w) : St w (feet L) L w := by
  have hpw := List.pairwise_append.1 h.nd
  exact ⟨Frame.refl w _, fun A hA => h.at_ A (by simp [hA]), hpw.1, fun k hk => .inr hk⟩
theorem St.back {w0 w w' : World} {M : List Nat} {L L' R : List Sp} (h : St w0 M (L ++ R) w) (h' : St w (feet L) L' w') : St w0 M (L' ++ R) w' :=
  h.step h'.fr h'.at_ h'.nd (fun k hk => (h'.mine k hk).symm)

section
variable {c : Cx} {i : Ci} {k : List It} {E : Env} {L : List Sp} {ops : Array Oper} {rest : List Oper} {ty : TypeId} {d : Nat} {pos : String} {af : Array Edge}

/-- A contract of such an iterator, from its body. -/
theorem ItN.enter {P : Program} {gf : Nat} {fn : Func} {body : Code} {lb : List Value} {Ro : List Sp} {nx : List (List Value) → List Value → Prop} {full : List (List Value) → Prop} (n : Nat) (hf : P.funcs[gf]? = some fn) (hb : fn.body = some body) (hn : fn.ntmps = n) (hle : Nat.ble (lb.length + 1) n = true) (hrs : fn.results = #[])
    (h : ∀ (l m : Nat) (X Z : Type) (φ : List (List Value) → X → Prop) (LL : X → List Sp) (ψ : Z → Prop) (LX : Z → List Sp) (Rx : List Sp) (W : World) (y0 : X),
      (∀ A ∈ Ro ++ Rx, A.holds W ∧ ∀ k ∈ A.foot, k ∉ feet (LL y0)) →
      (∀ vs y x W1, φ vs y → nx vs x → (∀ A ∈ Ro ++ Rx, A.holds W1 ∧ ∀ k ∈ A.foot, k ∉ feet (LL y)) → St W1 (feet (LL y)) (LL y) W1 →
        YieldAt (FW none) (m - 1) P l x.toArray W1 fun e W' => (e = .returned (.bool true) ∧ ∃ y', φ (vs ++ [x]) y' ∧ St W1 (feet (LL y)) (LL y') W') ∨ (e = .returned (.bool false) ∧ ∃ z, ψ z ∧ St W1 (feet (LL y)) (LX z) W')) →
      φ [] y0 → ∀ R0 : Exit → Act → World → Prop, (∀ e a w, e = .normal ∨ e = .ret → a.defers = [] → ((∃ vs y, full vs ∧ φ vs y ∧ St W (feet (LL y0)) (LL y) w) ∨ ∃ z, ψ z ∧ St W (feet (LL y0)) (LX z) w) → R0 e a w) →
      ∃ Ro' : List Sp, (∀ A ∈ Ro', A.holds W ∧ ∀ k ∈ A.foot, k ∉ feet (LL y0)) ∧
        JI { P := P, fn := fn, n := n, w0 := W, M := feet (LL y0), Ro := Ro', R := fun _ _ => True } ⟨none, m, [], R0⟩ [.code body] (envOf 0 (.func (.yield l) #[] #[] :: lb)) (LL y0)) : ItN P gf lb.toArray Ro nx full := by
  intro l m X Z φ LL ψ LX Rx W y0 hro hy h0 hst
  have hE : (#[.func (.yield l) #[] #[]] ++ lb.toArray : Array Value) = (.func (.yield l) #[] #[] :: lb : List Value).toArray := by simp
  rw [hE]
  refine callsIn_of_wp hf hb trivial ?_
  obtain ⟨Ro', hok, hj⟩ := h l m X Z φ LL ψ LX Rx W y0 hro hy h0 (bodyPost P fn fun e W' => (∃ v, e = .returned v) ∧ ((∃ vs y, full vs ∧ φ vs y ∧ St W (feet (LL y0)) (LL y) W') ∨ ∃ z, ψ z ∧ St W (feet (LL y0)) (LX z) W')) (fun e a w he hd hJ => by
    have hr : (results fn a.tmps).run P w = .ok (.tuple #[]) w := by
      simp [results, hrs]
    rcases he with rfl | rfl <;> exact ⟨hd, _, hr, ⟨_, rfl⟩, hJ⟩)
  rw [hn]
  exact hj hok _ W (args_has (by simpa using hle)) hst

end
end Go.LK

namespace Go.LK
open Go Go.RowKit

section
variable {α : Type} {f : α → Value} {m : List (Int × α)} {arr : Array MapEntry} {clock : Nat} {seen : Array Nat} {ks : List Int} {en : MapEntry}
theorem MapI.key (h : MapI f m arr clock) (he : en ∈ arr.toList) : ∃ k v, en.key = .int .i64 k ∧ en.val = f v ∧ (k, v) ∈ m := by
  have : (en.key, en.val) ∈ m.map (fun p => (Value.int .i64 p.1, f p.2)) := by rw [← h.eq]; exact List.mem_map.2 ⟨en, he, rfl⟩
  obtain ⟨p, hp, he2⟩ := List.mem_map.1 this
  simp only [Prod.mk.injEq] at he2
  exact ⟨p.1, p.2, he2.1.symm, he2.2.symm, hp⟩
theorem map_inj {β γ : Type} {g : β → γ} : ∀ {l : List β}, (l.map g).Nodup → ∀ {a b : β}, a ∈ l → b ∈ l → g a = g b → a = b
  | x :: l, h, a, b, ha, hb, e => by
    have h' := List.nodup_cons.1 h
    rcases List.mem_cons.1 ha with h1 | h1 <;> rcases List.mem_cons.1 hb with h2 | h2
    · rw [h1, h2]
    · exact absurd (List.mem_map.2 ⟨b, h2, by rw [← e, h1]⟩) h'.1
    · exact absurd (List.mem_map.2 ⟨a, h1, by rw [e, h2]⟩) h'.1
    · exact map_inj h'.2 h1 h2 e
theorem MapI.one (h : MapI f m arr clock) {a b : MapEntry} (ha : a ∈ arr.toList) (hb : b ∈ arr.toList) (hk : a.key = b.key) : a = b := by
  have hn : (arr.toList.map (·.key)).Nodup := by
    have : arr.toList.map (·.key) = (keysI m).map (Value.int .i64) := by
      have := congrArg (List.map Prod.fst) h.eq
      simpa [List.map_map, Function.comp_def, keysI] using this
    rw [this]
    exact List.Pairwise.map _ (fun a b hab e => hab (by simpa using e)) h.keys
  exact map_inj hn ha hb hk
/-- Those that a range has met. -/
structure Walk (m : List (Int × α)) (arr : Array MapEntry) (seen : Array Nat) (ks : List Int) : Prop where
  nd : ks.Nodup
  iff : ∀ en ∈ arr.toList, ∀ k, en.key = .int .i64 k → (seen.contains en.born = true ↔ k ∈ ks)
  sub : ∀ k ∈ ks, k ∈ keysI m
theorem Walk.nil : Walk m arr #[] [] := ⟨by simp, fun en _ k _ => by simp, by simp⟩
theorem Walk.next (hM : MapI f m arr clock) (h : Walk m arr seen ks) (hen : en ∈ (leftOf arr seen).toList) : ∃ k v, en.key = .int .i64 k ∧ en.val = f v ∧ (k, v) ∈ m ∧ k ∉ ks ∧ Walk m arr (seen.push en.born) (ks ++ [k]) := by
  obtain ⟨he, hs⟩ := mem_left hen
  obtain ⟨k, v, hk, hv, hkv⟩ := hM.key he
  have hkn : k ∉ ks := fun hin => by
    have := (h.iff en he k hk).2 hin
    rw [hs] at this; cases this
  refine ⟨k, v, hk, hv, hkv, hkn, List.nodup_append.2 ⟨h.nd, by simp, fun a ha b hb => by simp at hb; subst hb; exact fun e => hkn (e ▸ ha)⟩, fun en' he' k' hk' => ?_, fun k' hk' => ?_⟩
  · rw [contains_push, List.mem_append, List.mem_singleton, Bool.or_eq_true, h.iff en' he' k' hk', beq_iff_eq]
    constructor
    · rintro (h1 | h1)
      · exact .inl h1
      · have : en' = en := born_inj hM.born he' he h1
        subst this
        rw [hk] at hk'; cases hk'
        exact .inr rfl
    · rintro (h1 | h1)
      · exact .inl h1
      · subst h1
        have : en' = en := hM.one he' he (by rw [hk', hk])
        subst this
        exact .inr rfl
  · rcases List.mem_append.1 hk' with h1 | h1
    · exact h.sub k' h1
    · simp at h1; subst h1
      exact List.mem_map.2 ⟨_, hkv, rfl⟩
theorem Walk.full (hM : MapI f m arr clock) (h : Walk m arr seen ks) (h0 : (leftOf arr seen).size = 0) : ks.Perm (keysI m) := by
  refine (List.perm_ext_iff_of_nodup h.nd hM.keys).2 fun k => ⟨h.sub k, fun hk => ?_⟩
  obtain ⟨p, hp, rfl⟩ := List.mem_map.1 hk
  have : (Value.int .i64 p.1, f p.2) ∈ arr.toList.map (fun e => (e.key, e.val)) := by rw [hM.eq]; exact List.mem_map.2 ⟨p, hp, rfl⟩
  obtain ⟨en, he, hee⟩ := List.mem_map.1 this
  simp only [Prod.mk.injEq] at hee
  exact (h.iff en he p.1 hee.1).1 (all_seen arr seen h0 en he)
theorem ky_app {ks : List Int} {k : Int} : (ks ++ [k]).map (fun k => [Value.int .i64 k]) = ks.map (fun k => [Value.int .i64 k]) ++ [[Value.int .i64 k]] := by simp
end
end Go.LK

namespace Go.LK
open Go Go.RowKit

section
variable {c : Cx} {E : Env} {ty T : TypeId} {x : Operand}
end

theorem JI.nilRow {c : Cx} {i : Ci} {k : List It} {E : Env} {L : List Sp} (t : TypeId) (s : Nat) (h : JI c i k E (row (.slice none 0 0) t s [] :: L)) : JI c i k E L := fun ok a w ha hs =>
  h ok a w ha (hs.add (Frame.refl w _) ⟨World.ownsRow_nil w 0 t s, by simp⟩ (by simp [row, Value.ownBlock]))
theorem OI.one {c : Cx} {i : Ci} {k : List It} {E : Env} {L : List Sp} {ops : Array Oper} {rest : List Oper} {V : Value} {sz : Nat} {els : List (List Value)} (hs : Src c L V sz els) (h : V.oneCell' = true → OI c i ops rest k E L) : OI c i ops rest k E L := fun ok a w ha hst =>
  h (elt_one (hs ok w hst)) ok a w ha hst
theorem nodup_len : ∀ {ks l : List Int}, ks.Nodup → (∀ k ∈ ks, k ∈ l) → ks.length ≤ l.length
  | [], _, _, _ => by simp
  | k :: ks, l, hn, hs => by
    have hn' := List.nodup_cons.1 hn
    have hk : k ∈ l := hs k (by simp)
    have ih := nodup_len (ks := ks) (l := l.erase k) hn'.2 fun x hx => (List.mem_erase_of_ne (fun e => hn'.1 (by rw [← e]; exact hx))).2 (hs x (by simp [hx]))
    rw [List.length_erase_of_mem hk] at ih
    have := List.length_pos_of_mem hk
    simp only [List.length_cons]; omega
/-- What a range over keys has met so far. -/
def KMet {α : Type} (m : List (Int × α)) (vs : List (List Value)) (ks : List Int) : Prop := vs = ks.map (fun k => [Value.int .i64 k]) ∧ ks.Nodup ∧ ∀ k ∈ ks, k ∈ keysI m
theorem KMet.nil {α : Type} {m : List (Int × α)} : KMet m [] [] := ⟨rfl, by simp, by simp⟩
theorem KMet.next {α : Type} {m : List (Int × α)} {vs : List (List Value)} {ks : List Int} {k : Int} (h : KMet m vs ks) (hk : k ∈ keysI m) (hn : [Value.int .i64 k] ∉ vs) : KMet m (vs ++ [[Value.int .i64 k]]) (ks ++ [k]) := by
  obtain ⟨h1, h2, h3⟩ := h
  have hkn : k ∉ ks := fun hi => hn (by rw [h1]; exact List.mem_map.2 ⟨k, hi, rfl⟩)
  refine ⟨by rw [ky_app, h1], List.nodup_append.2 ⟨h2, by simp, fun a ha b hb => by simp at hb; subst hb; exact fun e => hkn (e ▸ ha)⟩, fun x hx => ?_⟩
  rcases List.mem_append.1 hx with hx | hx
  · exact h3 x hx
  · simp at hx; subst hx; exact hk
theorem KMet.len {α : Type} {m : List (Int × α)} {vs : List (List Value)} {ks : List Int} (h : KMet m vs ks) : ks.length ≤ m.length := by
  have := nodup_len h.2.1 h.2.2
  simpa [keysI] using this

theorem Frame.more {w w' : World} {M M' : List Nat} (h : Frame w M w') (hs : ∀ k ∈ M, k ∈ M') : Frame w M' w' := ⟨h.os, h.tape, h.output, h.size, fun k hk hn => h.old k hk fun hm => hn (hs k hm)⟩
theorem Re.footSub {L L1 : List Sp} (h : Re L L1) {w : World} (hs : St w (feet L) L w) : ∀ k ∈ LK.feet L1, k ∈ LK.feet L := fun k hk => by
  have h1 := h w _ w hs
  rcases h1.mine k hk with h2 | h2
  · have := h1.lt k hk; omega
  · exact h2
/-- A contract, said of atoms that tell the same in other words. -/
theorem Tri.conv {P : Program} {f : FuncId} {args : Array Value} {Ro L L1 : List Sp} {post1 post : Value → List Sp → Prop} (h : Tri P f args Ro L1 post1) (h1 : Re L L1) (h2 : ∀ v L', post1 v L' → ∃ L2, post v L2 ∧ Re L' L2) : Tri P f args Ro L post := fun w hro hst => by
  have hs1 := h1 w _ w hst
  have hft := h1.footSub hst
  have hown : St w (feet L1) L1 w := ⟨Frame.refl w _, hs1.at_, hs1.nd, fun k hk => .inr hk⟩
  refine (h w (fun A hA => ⟨(hro A hA).1, fun k hk hk' => (hro A hA).2 k hk (hft k hk')⟩) hown).mono ?_
  rintro e w' ⟨v, L', rfl, hp, hs'⟩
  obtain ⟨L2, hp2, hr⟩ := h2 v L' hp
  refine ⟨v, L2, rfl, hp2, hr w _ w' ⟨hs'.fr.more hft, hs'.at_, hs'.nd, fun k hk => ?_⟩⟩
  rcases hs'.mine k hk with h3 | h3
  · exact .inl h3
  · exact .inr (hft k h3)
/-- An atom, said in other words. -/
theorem Re.imp {A B : Sp} {L : List Sp} (h : ∀ w, A.holds w → B.holds w) (hf : B.foot = A.foot) : Re (A :: L) (B :: L) := fun w0 M w hs => by
  have hfe : feet (B :: L) = feet (A :: L) := by rw [feet_cons, feet_cons, hf]
  refine ⟨hs.fr, fun C hC => ?_, ?_, fun k hk => hs.mine k (hfe ▸ hk)⟩
  · rcases List.mem_cons.1 hC with rfl | hC
    · exact h w (hs.at_ A (by simp))
    · exact hs.at_ C (by simp [hC])
  · have := List.pairwise_cons.1 hs.nd
    refine List.pairwise_cons.2 ⟨fun C hC k hk => this.1 C hC k (hf ▸ hk), this.2⟩
section
variable {P : Program} {f : FuncId} {args : Array Value} {Ro Ro1 L : List Sp} {post post1 : Value → List Sp → Prop}
end
end Go.LK
