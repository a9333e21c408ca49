/-
  What a range over a map has met; maps.Keys' iterator.
-/
import Derived.Test.YtnkhmbbnabejhaaLk32
namespace Go.LK
open Go Go.RowKit

theorem YieldAt.weak {F : Fence} {m : Nat} {P : Program} {l : Nat} {args : Array Value} {W : World} {R R' : Ending → World → Prop} (h : YieldAt F m P l args W R) (hR : ∀ e w, R e w → R' e w) : YieldAt F m P l args W R' := by
  obtain ⟨fn, tmps, assign, body, h1, h2⟩ := h
  exact ⟨fn, tmps, assign, body, h1, RoundIn.mono h2 hR⟩

section
variable {α : Type} {f : α → Value} {m : List (Int × α)} {arr : Array MapEntry} {clock : Nat} {seen : Array Nat} {ks : List Int} {en : MapEntry}
theorem MapI.key (h : MapI f m arr clock) (he : en ∈ arr.toList) : ∃ k v, en.key = .int .i64 k ∧ en.val = f v ∧ (k, v) ∈ m := by
  have : (en.key, en.val) ∈ m.map (fun p => (Value.int .i64 p.1, f p.2)) := by rw [← h.eq]; exact List.mem_map.2 ⟨en, he, rfl⟩
  obtain ⟨p, hp, he2⟩ := List.mem_map.1 this
  simp only [Prod.mk.injEq] at he2
  exact ⟨p.1, p.2, he2.1.symm, he2.2.symm, hp⟩
theorem map_inj {β γ : Type} {g : β → γ} : ∀ {l : List β}, (l.map g).Nodup → ∀ {a b : β}, a ∈ l → b ∈ l → g a = g b → a = b
  | x :: l, h, a, b, ha, hb, e => by
    have h' := List.nodup_cons.1 h
    rcases List.mem_cons.1 ha with h1 | h1 <;> rcases List.mem_cons.1 hb with h2 | h2
    · rw [h1, h2]
    · exact absurd (List.mem_map.2 ⟨b, h2, by rw [← e, h1]⟩) h'.1
    · exact absurd (List.mem_map.2 ⟨a, h1, by rw [e, h2]⟩) h'.1
    · exact map_inj h'.2 h1 h2 e
theorem MapI.one (h : MapI f m arr clock) {a b : MapEntry} (ha : a ∈ arr.toList) (hb : b ∈ arr.toList) (hk : a.key = b.key) : a = b := by
  have hn : (arr.toList.map (·.key)).Nodup := by
    have : arr.toList.map (·.key) = (keysI m).map (Value.int .i64) := by
      have := congrArg (List.map Prod.fst) h.eq
      simpa [List.map_map, Function.comp_def, keysI] using this
    rw [this]
    exact List.Pairwise.map _ (fun a b hab e => hab (by simpa using e)) h.keys
  exact map_inj hn ha hb hk
/-- Those that a range has met. -/
structure Walk (m : List (Int × α)) (arr : Array MapEntry) (seen : Array Nat) (ks : List Int) : Prop where
  nd : ks.Nodup
  iff : ∀ en ∈ arr.toList, ∀ k, en.key = .int .i64 k → (seen.contains en.born = true ↔ k ∈ ks)
  sub : ∀ k ∈ ks, k ∈ keysI m
theorem Walk.nil : Walk m arr #[] [] := ⟨by simp, fun en _ k _ => by simp, by simp⟩
theorem Walk.next (hM : MapI f m arr clock) (h : Walk m arr seen ks) (hen : en ∈ (leftOf arr seen).toList) : ∃ k v, en.key = .int .i64 k ∧ en.val = f v ∧ (k, v) ∈ m ∧ k ∉ ks ∧ Walk m arr (seen.push en.born) (ks ++ [k]) := by
  obtain ⟨he, hs⟩ := mem_left hen
  obtain ⟨k, v, hk, hv, hkv⟩ := hM.key he
  have hkn : k ∉ ks := fun hin => by
    have := (h.iff en he k hk).2 hin
    rw [hs] at this; cases this
  refine ⟨k, v, hk, hv, hkv, hkn, List.nodup_append.2 ⟨h.nd, by simp, fun a ha b hb => by simp at hb; subst hb; exact fun e => hkn (e ▸ ha)⟩, fun en' he' k' hk' => ?_, fun k' hk' => ?_⟩
  · rw [contains_push, List.mem_append, List.mem_singleton, Bool.or_eq_true, h.iff en' he' k' hk', beq_iff_eq]
    constructor
    · rintro (h1 | h1)
      · exact .inl h1
      · have : en' = en := born_inj hM.born he' he h1
        subst this
        rw [hk] at hk'; cases hk'
        exact .inr rfl
    · rintro (h1 | h1)
      · exact .inl h1
      · subst h1
        have : en' = en := hM.one he' he (by rw [hk', hk])
        subst this
        exact .inr rfl
  · rcases List.mem_append.1 hk' with h1 | h1
    · exact h.sub k' h1
    · simp at h1; subst h1
      exact List.mem_map.2 ⟨_, hkv, rfl⟩
theorem Walk.full (hM : MapI f m arr clock) (h : Walk m arr seen ks) (h0 : (leftOf arr seen).size = 0) : ks.Perm (keysI m) := by
  refine (List.perm_ext_iff_of_nodup h.nd hM.keys).2 fun k => ⟨h.sub k, fun hk => ?_⟩
  obtain ⟨p, hp, rfl⟩ := List.mem_map.1 hk
  have : (Value.int .i64 p.1, f p.2) ∈ arr.toList.map (fun e => (e.key, e.val)) := by rw [hM.eq]; exact List.mem_map.2 ⟨p, hp, rfl⟩
  obtain ⟨en, he, hee⟩ := List.mem_map.1 this
  simp only [Prod.mk.injEq] at hee
  exact (h.iff en he p.1 hee.1).1 (all_seen arr seen h0 en he)
def kyNx (m : List (Int × α)) (vs : List (List Value)) (x : List Value) : Prop := ∃ k, k ∈ keysI m ∧ x = [.int .i64 k] ∧ x ∉ vs
def kyFull (m : List (Int × α)) (vs : List (List Value)) : Prop := ∃ ks : List Int, vs = ks.map (fun k => [Value.int .i64 k]) ∧ ks.Perm (keysI m)
theorem ky_not {ks : List Int} {k : Int} (h : k ∉ ks) : [Value.int .i64 k] ∉ ks.map (fun k => [Value.int .i64 k]) := fun hm => by
  obtain ⟨j, hj, he⟩ := List.mem_map.1 hm
  simp at he; subst he; exact h hj
theorem ky_app {ks : List Int} {k : Int} : (ks ++ [k]).map (fun k => [Value.int .i64 k]) = ks.map (fun k => [Value.int .i64 k]) ++ [[Value.int .i64 k]] := by simp
end
theorem sel_range : ∀ (L : List Sp), LK.sel L (List.range L.length) = L
  | [] => rfl
  | A :: L => by
    have ih := sel_range L
    unfold LK.sel at ih ⊢
    rw [List.length_cons, List.range_succ_eq_map, List.filterMap_cons, List.filterMap_map]
    simp only [List.getElem?_cons_zero, Function.comp_def, List.getElem?_cons_succ]
    rw [ih]
theorem sel_all {A : Sp} (L : List Sp) : LK.sel (A :: L) (List.range L.length.succ) = A :: L := sel_range (A :: L)
end Go.LK
