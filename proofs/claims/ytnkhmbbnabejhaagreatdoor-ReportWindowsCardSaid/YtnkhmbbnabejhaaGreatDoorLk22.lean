/-
  A range over a string: its block, what comes next; what a rune that begins at a byte is.
-/
import Derived.Test.YtnkhmbbnabejhaaGreatDoorLk21
import Derived.Laws.RangeAny
namespace Go.LK
open Go Go.RowKit

/-- The block of a range over the string l, at byte p. -/
def itS (g : Nat) (l : List UInt8) (p : Nat) : Sp := blk g (.stringIter ⟨l.toArray⟩ p)
/-- The rune that begins at byte p, and how many bytes it has. -/
def rune (l : List UInt8) (p : Nat) : Nat × Nat := Utf8.decode ⟨l.toArray⟩ p

section
variable {c : Cx} {E : Env} {L : List Sp} {ty T : TypeId} {x : Operand} {l : List UInt8} {g p : Nat}
theorem Lo.range (hT : c.P.underlying T = some .string) (hx : ev E x = some (str l)) : Lo c E L (.range T x) ty fun v L' => ∃ g, v = .pointer (some ⟨g, 0, none⟩) ∧ L' = itS g l 0 :: L := fun _ a w ha hs d pos af g K Q hK =>
  wp_loud (v := .pointer (some ⟨w.heap.size, 0, none⟩)) (w' := w.alloc (.stringIter ⟨l.toArray⟩ 0)) (by simp [execOp, ha.ev hx, run_range_string w T _ hT, World.iter])
    (hK _ _ _ ⟨_, rfl, rfl⟩ (hs.alloc _))
theorem Lo.next (i : Nat) (hx : ev E x = some (.pointer (some ⟨g, 0, none⟩))) (hi : L[i]? = some (itS g l p)) (h : p < l.length) :
    Lo c E L (.next x true) ty fun v L' => v = .tuple #[.bool true, .int .i64 p, .int .i32 (rune l p).1] ∧ L' = L.set i (itS g l (p + (rune l p).2)) := fun _ a w ha hst d pos af gd K Q hK => by
  have hh : w.heap[g]? = some (.stringIter ⟨l.toArray⟩ p) := hst.at_ _ (List.mem_of_getElem? hi)
  have hlt := (Array.getElem?_eq_some_iff.1 hh).1
  have hp : p < (ByteArray.mk l.toArray).size := by rw [size_mk]; exact h
  refine wp_loud (v := .tuple #[.bool true, .int .i64 p, .int .i32 (rune l p).1]) (w' := { w with heap := w.heap.setIfInBounds g (.stringIter ⟨l.toArray⟩ (p + (rune l p).2)) })
    (by simp [execOp, ha.ev hx, Instr.next, getObj, setObj, Sem.run, hh, hp, Result.andThen, goInt, rune]) ?_
  refine hK _ _ _ ⟨rfl, rfl⟩ (hst.set hi ⟨rfl, rfl, rfl, by simp, fun k _ hk => ?_⟩ ?_ (fun k hk => .inl hk))
  · have : g ≠ k := fun e => hk (by simp [itS, blk, e])
    simp [Array.getElem?_setIfInBounds_ne this]
  · show ({ w with heap := w.heap.setIfInBounds g _ } : World).heap[g]? = _
    simp [hlt]
theorem Lo.nextEnd (i : Nat) (hx : ev E x = some (.pointer (some ⟨g, 0, none⟩))) (hi : L[i]? = some (itS g l p)) (h : ¬ p < l.length) :
    Lo c E L (.next x true) ty fun v L' => v = .tuple #[.bool false] ∧ L' = L := fun _ a w ha hst d pos af gd K Q hK => by
  have hh : w.heap[g]? = some (.stringIter ⟨l.toArray⟩ p) := hst.at_ _ (List.mem_of_getElem? hi)
  have hp : ¬ p < (ByteArray.mk l.toArray).size := by rw [size_mk]; exact h
  exact wp_loud (v := .tuple #[.bool false]) (w' := w) (by simp [execOp, ha.ev hx, Instr.next, getObj, Sem.run, hh, hp, Result.andThen]) (hK _ _ _ ⟨rfl, rfl⟩ hst)
end

/-! ### What a rune is -/
theorem mk_get (l : List UInt8) (p k : Nat) (h : p + k < l.length) : (ByteArray.mk l.toArray).get! (p + k) = l[p + k] := by
  have : p + k < l.toArray.size := by simpa using h
  simp [ByteArray.get!, getElem!_pos, h]
/-- A rune begins at a byte below 128, and is that byte; or it and all of its bytes are from 128 up. -/
theorem rune_cases {l : List UInt8} {p : Nat} {b : UInt8} (hb : l[p]? = some b) :
    (b.toNat < 128 ∧ rune l p = (b.toNat, 1)) ∨ (128 ≤ b.toNat ∧ 128 ≤ (rune l p).1 ∧ 1 ≤ (rune l p).2 ∧ p + (rune l p).2 ≤ l.length ∧ ∀ j c, p ≤ j → j < p + (rune l p).2 → l[j]? = some c → 128 ≤ c.toNat) := by
  obtain ⟨hlt, he⟩ := List.getElem?_eq_some_iff.1 hb
  have hs : (ByteArray.mk l.toArray).size = l.length := size_mk l
  have h0 : ((ByteArray.mk l.toArray).get! (p + 0)).toNat = b.toNat := by rw [mk_get l p 0 (by omega)]; exact congrArg UInt8.toNat he
  by_cases h : b.toNat < 128
  · refine .inl ⟨h, ?_⟩
    unfold rune
    simp only [Utf8.decode, h0, h, if_true]
  · refine .inr ⟨by omega, ?_⟩
    have hc : ∀ k c, p + k < l.length → ((ByteArray.mk l.toArray).get! (p + k)).toNat / 64 = 2 → l[p + k]? = some c → 128 ≤ c.toNat := fun k c h1 h2 h3 => by
      rw [mk_get l p k h1] at h2
      rw [List.getElem?_eq_getElem h1] at h3
      cases h3
      omega
    have key : ∀ n, n ≤ 4 → (∀ k c, k < n → l[p + k]? = some c → 128 ≤ c.toNat) → ∀ j c, p ≤ j → j < p + n → l[j]? = some c → 128 ≤ c.toNat := fun n _ hk j c h1 h2 h3 => hk (j - p) c (by omega) (by rw [show p + (j - p) = j from by omega]; exact h3)
    have hz : ∀ c, l[p + 0]? = some c → 128 ≤ c.toNat := fun c h3 => by rw [Nat.add_zero, hb] at h3; cases h3; omega
    have one : ∀ k c, k < 1 → l[p + k]? = some c → 128 ≤ c.toNat := fun k c h1 h3 => by
      have : k = 0 := by omega
      subst this
      exact hz c h3
    unfold rune
    simp only [Utf8.decode, h0, h, if_false, hs, Bool.and_eq_true, decide_eq_true_eq, beq_iff_eq]
    split
    · rename_i h1
      split
      · rename_i h2
        refine ⟨h2, by show 1 ≤ 2; omega, by show p + 2 ≤ _; omega, key 2 (by omega) fun k c hk h3 => ?_⟩
        by_cases hk0 : k = 0
        · subst hk0; exact hz c h3
        · have : k = 1 := by omega
          subst this
          exact hc 1 c h1.2.1 h1.2.2 h3
      · exact ⟨by show 128 ≤ Utf8.runeError; decide, by show 1 ≤ 1; omega, by show p + 1 ≤ _; omega, key 1 (by omega) one⟩
    · split
      · rename_i h1
        split
        · rename_i h2
          refine ⟨by show 128 ≤ _; omega, by show 1 ≤ 3; omega, by show p + 3 ≤ _; omega, key 3 (by omega) fun k c hk h3 => ?_⟩
          by_cases hk0 : k = 0
          · subst hk0; exact hz c h3
          · by_cases hk1 : k = 1
            · subst hk1; exact hc 1 c h1.1.2.1 h1.1.2.2 h3
            · have : k = 2 := by omega
              subst this
              exact hc 2 c h1.2.1 h1.2.2 h3
        · exact ⟨by show 128 ≤ Utf8.runeError; decide, by show 1 ≤ 1; omega, by show p + 1 ≤ _; omega, key 1 (by omega) one⟩
      · split
        · rename_i h1
          split
          · rename_i h2
            refine ⟨by show 128 ≤ _; omega, by show 1 ≤ 4; omega, by show p + 4 ≤ _; omega, key 4 (by omega) fun k c hk h3 => ?_⟩
            by_cases hk0 : k = 0
            · subst hk0; exact hz c h3
            · by_cases hk1 : k = 1
              · subst hk1; exact hc 1 c h1.1.1.2.1 h1.1.1.2.2 h3
              · by_cases hk2 : k = 2
                · subst hk2; exact hc 2 c h1.1.2.1 h1.1.2.2 h3
                · have : k = 3 := by omega
                  subst this
                  exact hc 3 c h1.2.1 h1.2.2 h3
          · exact ⟨by show 128 ≤ Utf8.runeError; decide, by show 1 ≤ 1; omega, by show p + 1 ≤ _; omega, key 1 (by omega) one⟩
        · exact ⟨by show 128 ≤ Utf8.runeError; decide, by show 1 ≤ 1; omega, by show p + 1 ≤ _; omega, key 1 (by omega) one⟩
end Go.LK
