/-
  The plain law of digits to the base 16.
-/
import Derived.Test.YtnhfgnnpbipcnaaGreatDoorLkL
namespace Go.LK.Hx
open Go Go.LK

def hexDigits : List UInt8 := [48, 49, 50, 51, 52, 53, 54, 55, 56, 57, 97, 98, 99, 100, 101, 102]
def hx (d : Nat) : UInt8 := hexDigits.getD d 0
/-- The last k digits of n. -/
def hexL : Nat → Nat → List UInt8
  | _, 0 => []
  | n, k + 1 => hexL (n / 16) k ++ [hx (n % 16)]
theorem hexL_len : ∀ (k n : Nat), (hexL n k).length = k
  | 0, _ => rfl
  | k + 1, n => by rw [hexL, List.length_append, hexL_len k]; rfl
theorem hx_at {d : Nat} {x : UInt8} (h : hexDigits[d]? = some x) : x = hx d := by
  unfold hx
  rw [List.getD_eq_getElem?_getD, h]; rfl
/-- One more digit, told at the front of those that are there. -/
theorem hex_step {m n k j : Nat} {s : List UInt8} {x : UInt8} (hk : k = j + 1) (hx' : hexDigits[m % 16]? = some x) (h : hexL m k ++ s = hexL n 16) : hexL (m / 16) j ++ (x :: s) = hexL n 16 := by
  subst hk
  rw [← h, hexL, hx_at hx', List.append_assoc]; rfl
theorem hex_end {m n k : Nat} {s : List UInt8} (hk : k = 0) (h : hexL m k ++ s = hexL n 16) : s = hexL n 16 := by
  subst hk; exact h
theorem put_digit {j : Nat} {s : List UInt8} {x : UInt8} : (List.replicate (j + 1) (0 : UInt8) ++ s).set j x = List.replicate j 0 ++ (x :: s) := by
  rw [List.set_append_left _ _ (by simp)]
  have : (List.replicate (j + 1) (0 : UInt8)).set j x = List.replicate j 0 ++ [x] := by
    rw [List.replicate_succ', List.set_append_right _ _ (by simp)]
    simp
  rw [this, List.append_assoc]; rfl

/-- A digit's number. -/
def hv (c : UInt8) : Option Nat := hexDigits.findIdx? (· == c)
theorem apart_digits : ∀ a b : _root_.Fin 16, hexDigits[a.val]? = hexDigits[b.val]? → a = b := by decide
theorem hv_at {c : UInt8} {i : Nat} (h : hexDigits[i]? = some c) : hv c = some i := by
  unfold hv
  rw [List.findIdx?_eq_some_iff_getElem]
  obtain ⟨hlt, he⟩ := List.getElem?_eq_some_iff.1 h
  refine ⟨hlt, by simp [he], fun j hj => ?_⟩
  simp only [beq_iff_eq]
  intro hc
  have hl16 : hexDigits.length = 16 := rfl
  have h1 := apart_digits ⟨j, by omega⟩ ⟨i, by omega⟩ (by simp only []; rw [h, List.getElem?_eq_getElem (by omega), hc])
  have := congrArg _root_.Fin.val h1
  simp only at this
  omega
theorem hv_none {c : UInt8} (h : ∀ (i : Nat) x, hexDigits[i]? = some x → x ≠ c) : hv c = none := by
  unfold hv
  rw [List.findIdx?_eq_none_iff]
  intro x hx
  obtain ⟨i, hi⟩ := List.mem_iff_getElem?.1 hx
  simpa using h i x hi
theorem hv_lt {c : UInt8} {d : Nat} (h : hv c = some d) : d < 16 := by
  unfold hv at h
  rw [List.findIdx?_eq_some_iff_getElem] at h
  exact h.1
def accH (s : List UInt8) : Nat → Option Nat
  | 0 => some 0
  | i + 1 => match accH s i, s[i]? with
    | some n, some c => (hv c).map (n * 16 + ·)
    | _, _ => none
theorem accH_next {s : List UInt8} {i n d : Nat} {c : UInt8} (h : accH s i = some n) (hc : s[i]? = some c) (hd : hv c = some d) : accH s (i + 1) = some (n * 16 + d) := by
  simp [accH, h, hc, hd]
theorem accH_stop {s : List UInt8} {i n : Nat} {c : UInt8} (h : accH s i = some n) (hc : s[i]? = some c) (hd : hv c = none) : ∀ k, i < k → accH s k = none := by
  intro k
  induction k with
  | zero => intro hk; omega
  | succ k ih =>
    intro hk
    by_cases he : k = i
    · subst he; simp [accH, h, hc, hd]
    · have := ih (by omega)
      simp [accH, this]
theorem accH_lt {s : List UInt8} : ∀ {i n : Nat}, accH s i = some n → n < 16 ^ i
  | 0, n, h => by simp [accH] at h; subst h; simp
  | i + 1, n, h => by
    simp only [accH] at h
    split at h
    · rename_i m c hm hc
      simp only [Option.map_eq_some_iff] at h
      obtain ⟨d, hd, rfl⟩ := h
      have h1 := accH_lt hm
      have h2 := hv_lt hd
      rw [Nat.pow_succ]
      omega
    · cases h
def parse (s : List UInt8) : Nat × Int := if s.length = 16 then (match accH s 16 with | some n => (n, 0) | none => (0, 2)) else (0, 2)
theorem parse_len {s : List UInt8} (h : ¬ s.length = 16) : parse s = (0, 2) := if_neg h
theorem parse_ok {s : List UInt8} {n : Nat} (h : s.length = 16) (ha : accH s 16 = some n) : parse s = (n, 0) := by rw [parse, if_pos h, ha]
theorem parse_bad {s : List UInt8} {i n : Nat} {c : UInt8} (h : s.length = 16) (ha : accH s i = some n) (hc : s[i]? = some c) (hd : hv c = none) : parse s = (0, 2) := by
  have hi := (List.getElem?_eq_some_iff.1 hc).1
  rw [parse, if_pos h, accH_stop ha hc hd 16 (by omega)]

/-! ### As the walks ask for it -/
theorem u64_id {x : Int} (h : 0 ≤ x ∧ x ≤ 18446744073709551615) : IntKind.u64.wrap x = x := by
  have : IntKind.u64.wrap x = x % 18446744073709551616 := rfl
  rw [this]
  omega
theorem tmod_nat {m : Nat} : Int.tmod (Nat.cast m : Int) 16 = (Nat.cast (m % 16) : Int) := by
  rw [Int.tmod_eq_emod_of_nonneg (by omega)]
  omega
theorem quo_nat {m : Nat} (hm : m < 18446744073709551616) : IntKind.u64.wrap (Int.tdiv (Nat.cast m : Int) 16) = (Nat.cast (m / 16) : Int) := by
  rw [Int.tdiv_eq_ediv_of_nonneg (by omega), u64_id (by omega)]
  omega
theorem mb {m : Nat} (hm : m < 18446744073709551616) : IntKind.u64.wrap ((Nat.cast (m / 16) : Int) * 16) = (Nat.cast (m / 16 * 16) : Int) := by
  rw [u64_id (by omega)]; omega
theorem sb {m : Nat} (hm : m < 18446744073709551616) : IntKind.u64.wrap ((Nat.cast m : Int) - (Nat.cast (m / 16 * 16) : Int)) = (Nat.cast (m % 16) : Int) := by
  rw [u64_id (by omega)]; omega
theorem cb {m : Nat} : IntKind.i64.wrap (Nat.cast (m % 16) : Int) = (Nat.cast (m % 16) : Int) := in_i64 (by omega)
theorem put_at {i : Nat} {t : List UInt8} {x : UInt8} (h : i < 16) : (List.replicate (16 - i) 0 ++ t).set ((15 : Int) - (i : Int)).toNat x = List.replicate (16 - (i + 1)) 0 ++ (x :: t) := by
  rw [show 16 - i = (16 - (i + 1)) + 1 from by omega, show ((15 : Int) - (i : Int)).toNat = 16 - (i + 1) from by omega]
  exact put_digit
theorem hex_fin : ∀ i : _root_.Fin 16, (hexDigits.drop i.val).take 1 = [hx i.val] := by decide
theorem hex_cut {d : Nat} (h : d < 16) : (hexDigits.drop (Nat.cast d : Int).toNat).take (((Nat.cast d : Int) + 1).toNat - (Nat.cast d : Int).toNat) = [hx d] := by
  rw [show ((Nat.cast d : Int) + 1).toNat - (Nat.cast d : Int).toNat = 1 from by omega]
  exact hex_fin ⟨d, h⟩
theorem hx_get {d : Nat} (h : d < 16) : hexDigits[d]? = some (hx d) := by
  unfold hx
  rw [List.getD_eq_getElem?_getD, List.getElem?_eq_getElem (by show d < 16; exact h)]; rfl
theorem text_step {m n k j : Nat} {t : List UInt8} (hk : k = j + 1) (h : hexL m k ++ t = hexL n 16) :
    hexL (m / 16) j ++ ((hexDigits.drop (Nat.cast (m % 16) : Int).toNat).take (((Nat.cast (m % 16) : Int) + 1).toNat - (Nat.cast (m % 16) : Int).toNat) ++ t) = hexL n 16 := by
  rw [hex_cut (by omega)]
  exact hex_step hk (hx_get (by omega)) h
theorem short {m n k : Nat} {t : List UInt8} (h : hexL m k ++ t = hexL n 16) : t.length ≤ 16 := by
  have := congrArg List.length h
  rw [List.length_append, hexL_len, hexL_len] at this
  omega
theorem acc_fit {s : List UInt8} {i m : Nat} (h : accH s i = some m) (hi : i < 16) : m * 16 + 15 < 18446744073709551616 := by
  have h1 := accH_lt h
  have h2 : 16 ^ i ≤ 16 ^ 15 := Nat.pow_le_pow_right (by omega) (by omega)
  omega
theorem mul_nat {m : Nat} (h : m * 16 + 15 < 18446744073709551616) : IntKind.u64.wrap ((Nat.cast m : Int) * 16) = (Nat.cast (m * 16) : Int) := by
  rw [u64_id (by omega)]; omega
theorem getD_lt (c : UInt8) : (hv c).getD 0 < 16 := by
  cases h : hv c with
  | none => decide
  | some d => exact hv_lt h
theorem add_nat {m d : Nat} (h : m * 16 + 15 < 18446744073709551616) (hd : d < 16) : IntKind.u64.wrap ((Nat.cast (m * 16) : Int) + (Nat.cast d : Int)) = (Nat.cast (m * 16 + d) : Int) := by
  rw [u64_id (by omega)]; omega
theorem acc_some {s : List UInt8} {i m : Nat} {c : UInt8} (h : accH s i = some m) (hc : s[i]? = some c) (hv' : (hv c).isSome = true) : accH s (i + 1) = some (m * 16 + (hv c).getD 0) := by
  obtain ⟨d, hd⟩ := Option.isSome_iff_exists.1 hv'
  rw [accH_next h hc hd, hd]; rfl
theorem parse_not {s : List UInt8} {i n : Nat} {c : UInt8} (h : s.length = 16) (ha : accH s i = some n) (hc : s[i]? = some c) (hd : (hv c).isSome = false) : parse s = (0, 2) := parse_bad h ha hc (by simpa using hd)
theorem value_hit {c : UInt8} {i : Nat} {x : UInt8} (h : hexDigits[i]? = some x) (he : (x.toNat : Int) = (c.toNat : Int)) : hv c = some i := by
  have : x = c := UInt8.toNat_inj.1 (by omega)
  subst this
  exact hv_at h
def noHit (c : UInt8) (k : Nat) : Prop := ∀ (j : Nat) (x : UInt8), j < k → hexDigits[j]? = some x → x ≠ c
theorem noHit_next {c : UInt8} {k : Nat} {x : UInt8} (h : noHit c k) (hx' : hexDigits[k]? = some x) (hne : ¬ (x.toNat : Int) = (c.toNat : Int)) : noHit c (k + 1) := fun j y hj hy => by
  by_cases he : j = k
  · subst he; rw [hx'] at hy; cases hy; intro h2; subst h2; exact hne rfl
  · exact h j y (by omega) hy
theorem noHit_zero {c : UInt8} : noHit c 0 := fun j _ h => absurd h (Nat.not_lt_zero j)
theorem noHit_end {c : UInt8} (h : noHit c 16) : hv c = none := hv_none fun i x hi hx' => h i x (by have := (List.getElem?_eq_some_iff.1 hi).1; exact this) hi hx'
def dI : Option Nat → Int
  | none => -1
  | some j => j
def Found (c : UInt8) (k : Nat) (q : Option Nat) : Prop := (q = none ∧ noHit c k) ∨ ∃ j, q = some j ∧ hexDigits[j]? = some c
theorem found_end {c : UInt8} {q : Option Nat} (h : Found c 16 q) : hv c = q := by
  rcases h with ⟨rfl, h2⟩ | ⟨j, rfl, h2⟩
  · exact noHit_end h2
  · exact hv_at h2
theorem dI_neg {q : Option Nat} : dI q < 0 ↔ q = none := by
  cases q with
  | none => simp [dI]
  | some j => simp only [dI]; constructor
              · intro h; omega
              · intro h; cases h
end Go.LK.Hx
