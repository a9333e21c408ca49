/-
  Several texts in one: Dec1, Dec2.
-/
import Derived.Test.YtnhfgnnpbipcnaaGreatDoorDec0
import Derived.Lib.ItoaLen
import Derived.Lib.ItoaMem
import Derived.Lib.SplitLaws
import Derived.Test.YtnhfgnnpbipcnaaGreatDoorLkL
namespace Go.LK.Dc
open Go Go.LK

/-! ### Digits -/
def isD (c : UInt8) : Prop := 48 ≤ c.toNat ∧ c.toNat ≤ 57
theorem ofNat_dig {u : Nat} (h : u < 10) : (UInt8.ofNat (48 + u)).toNat = 48 + u := by
  rw [UInt8.toNat_ofNat']
  omega
theorem dec_small {u : Nat} (h : u < 10) : Lib.decDigits u = [UInt8.ofNat (48 + u)] := Lib.decDigits_one h
theorem dec_big {u : Nat} (h : ¬ u < 10) : Lib.decDigits u = Lib.decDigits (u / 10) ++ [UInt8.ofNat (48 + u % 10)] := by rw [Lib.decDigits, dif_neg h]
theorem dec_isD : ∀ (u : Nat), ∀ c ∈ Lib.decDigits u, isD c := fun u => by
  induction u using Nat.strongRecOn with
  | _ u ih =>
    intro c hc
    by_cases h : u < 10
    · rw [dec_small h, List.mem_singleton] at hc
      subst hc
      unfold isD; rw [ofNat_dig h]; omega
    · rw [dec_big h, List.mem_append, List.mem_singleton] at hc
      rcases hc with hc | rfl
      · exact ih (u / 10) (by omega) c hc
      · unfold isD; rw [ofNat_dig (by omega)]; omega
theorem dec_ne (u : Nat) : Lib.decDigits u ≠ [] := by
  by_cases h : u < 10
  · rw [dec_small h]; simp
  · rw [dec_big h]; simp
theorem dec_len : ∀ (k u : Nat), u < 10 ^ (k + 1) → (Lib.decDigits u).length ≤ k + 1
  | 0, u, h => by rw [dec_small (by simpa using h)]; simp
  | k + 1, u, h => by
    by_cases h2 : u < 10
    · rw [dec_small h2]; simp
    · rw [dec_big h2, List.length_append, List.length_singleton]
      have := dec_len k (u / 10) (by rw [Nat.pow_succ] at h; omega)
      omega

/-! ### What is spelled comes back -/
theorem pu_app (M : Nat) : ∀ (l m : List UInt8) (acc v : Nat), Lib.parseUintM M acc l = .ok v → Lib.parseUintM M acc (l ++ m) = Lib.parseUintM M v m
  | [], m, acc, v, h => by simp only [Lib.parseUintM, Lib.NumEnd.ok.injEq] at h; subst h; rfl
  | c :: l, m, acc, v, h => by
    simp only [List.cons_append, Lib.parseUintM] at h ⊢
    by_cases h1 : 48 ≤ c.toNat ∧ c.toNat ≤ 57
    · rw [if_pos h1] at h ⊢
      by_cases h2 : 1844674407370955162 ≤ acc
      · rw [if_pos h2] at h; cases h
      · rw [if_neg h2] at h ⊢
        by_cases h3 : M < acc * 10 + (c.toNat - 48)
        · rw [if_pos h3] at h; cases h
        · rw [if_neg h3] at h ⊢
          exact pu_app M l m _ v h
    · rw [if_neg h1] at h; cases h
theorem pu_one {M acc u : Nat} (hu : u < 10) (ha : acc < 1844674407370955162) (hM : acc * 10 + u ≤ M) : Lib.parseUintM M acc [UInt8.ofNat (48 + u)] = .ok (acc * 10 + u) := by
  have h := ofNat_dig hu
  simp only [Lib.parseUintM]
  rw [h, if_pos (by omega), if_neg (by omega), if_neg (by omega)]
  congr 1
  omega
theorem pu_dec : ∀ (u : Nat), u ≤ 18446744073709551615 → Lib.parseUintM 18446744073709551615 0 (Lib.decDigits u) = .ok u := fun u => by
  induction u using Nat.strongRecOn with
  | _ u ih =>
    intro hu
    by_cases h : u < 10
    · rw [dec_small h, pu_one h (by omega) (by omega)]; simp
    · rw [dec_big h, pu_app _ _ _ _ _ (ih (u / 10) (by omega) (by omega)), pu_one (by omega) (by omega) (by omega)]
      congr 1
      omega
theorem pub_dec {u : Nat} (hu : u ≤ 18446744073709551615) : Lib.parseUintB 64 (Lib.decDigits u) = .ok u := by
  unfold Lib.parseUintB
  rw [if_neg (dec_ne u)]
  exact pu_dec u hu
theorem back_nat {u : Nat} (hu : u < 9223372036854775808) : Lib.parseIntB 64 (Lib.decDigits u) = .ok (u : Int) := by
  have hp := pub_dec (u := u) (by omega)
  have hd := dec_isD u
  cases h : Lib.decDigits u with
  | nil => exact absurd h (dec_ne u)
  | cons c r =>
    rw [h] at hp hd
    have hc := hd c (by simp)
    unfold isD at hc
    rw [Lib.parseIntB_plain 64 c r (by omega) (by omega), hp]
    simp only [Lib.signlessC]
    rw [if_neg (by omega)]
theorem back_neg {u : Nat} (hu : u ≤ 9223372036854775808) : Lib.parseIntB 64 (45 :: Lib.decDigits u) = .ok (-(u : Int)) := by
  rw [Lib.parseIntB_minus, pub_dec (by omega)]
  simp only [Lib.signedC]
  rw [if_neg (by omega)]
theorem itoa_pos {n : Int} (h : 0 ≤ n) : Lib.itoa n = Lib.decDigits n.toNat := by unfold Lib.itoa; rw [if_neg (by omega)]
theorem itoa_min {n : Int} (h : n < 0) : Lib.itoa n = 45 :: Lib.decDigits n.natAbs := by unfold Lib.itoa; rw [if_pos h]
def I64 (n : Int) : Prop := -9223372036854775808 ≤ n ∧ n ≤ 9223372036854775807
theorem back {n : Int} (h : I64 n) : Lib.parseIntB 64 (Lib.itoa n) = .ok n := by
  unfold I64 at h
  by_cases h0 : n < 0
  · rw [itoa_min h0, back_neg (by omega)]
    congr 1
    omega
  · rw [itoa_pos (by omega), back_nat (by omega)]
    congr 1
    omega
theorem parse_some {n : Int} (hn : I64 n) : parse (Lib.itoa n) = (n, 0) := parse_ok (back hn) (by simp)

/-! ### Text: the digits from the last to the first -/
def dig (k : Int) : List UInt8 := if k = 0 then [] else Lib.decDigits k.natAbs
theorem t_parts (k : Int) : k.tdiv 10 * 10 + k.tmod 10 = k ∧ -9 ≤ k.tmod 10 ∧ k.tmod 10 ≤ 9 ∧ (0 ≤ k → 0 ≤ k.tmod 10 ∧ 0 ≤ k.tdiv 10 ∧ k.tdiv 10 ≤ k) ∧ (k ≤ 0 → k.tmod 10 ≤ 0 ∧ k.tdiv 10 ≤ 0 ∧ k ≤ k.tdiv 10) ∧ (k.tdiv 10).natAbs = k.natAbs / 10 ∧ (k.tmod 10).natAbs = k.natAbs % 10 := by
  have key : ∀ m : Int, 0 ≤ m → m.tdiv 10 = m / 10 ∧ m.tmod 10 = m % 10 := fun m hm => ⟨Int.tdiv_eq_ediv_of_nonneg hm, Int.tmod_eq_emod_of_nonneg hm⟩
  rcases Int.le_total 0 k with h | h
  · obtain ⟨h1, h2⟩ := key k h
    rw [h1, h2]
    omega
  · obtain ⟨h1, h2⟩ := key (-k) (by omega)
    rw [Int.neg_tdiv] at h1
    rw [Int.neg_tmod] at h2
    have h3 : k.tdiv 10 = -(-k / 10) := by omega
    have h4 : k.tmod 10 = -(-k % 10) := by omega
    rw [h3, h4]
    omega
theorem dig_step {k : Int} (h : k ≠ 0) : dig k = dig (k.tdiv 10) ++ [UInt8.ofNat (48 + k.natAbs % 10)] := by
  have hp := (t_parts k).2.2.2.2.2.1
  unfold dig
  rw [if_neg h]
  by_cases h2 : k.natAbs < 10
  · rw [if_pos (by omega), dec_small h2, Nat.mod_eq_of_lt h2]; rfl
  · rw [if_neg (by omega), hp, dec_big h2]
theorem itoa_dig {n : Int} (h : n ≠ 0) : Lib.itoa n = if n < 0 then 45 :: dig n else dig n := by
  unfold dig
  rw [if_neg h]
  split
  · rename_i h1; exact itoa_min h1
  · rename_i h1; rw [itoa_pos (by omega)]; congr 1; omega
theorem dig_len {n : Int} (h : I64 n) : (dig n).length ≤ 21 := by
  unfold I64 at h
  unfold dig
  split
  · simp
  · exact Nat.le_trans (dec_len 19 _ (by omega)) (by omega)
theorem digit_fin : ∀ i : _root_.Fin 10, (([48, 49, 50, 51, 52, 53, 54, 55, 56, 57] : List UInt8).drop i.val).take 1 = [UInt8.ofNat (48 + i.val)] := by decide
theorem digit_cut {d : Int} {m : Nat} (h0 : 0 ≤ d) (hm : d.toNat = m) (h9 : m < 10) : (([48, 49, 50, 51, 52, 53, 54, 55, 56, 57] : List UInt8).drop d.toNat).take ((d + 1).toNat - d.toNat) = [UInt8.ofNat (48 + m)] := by
  subst hm
  have := digit_fin ⟨d.toNat, h9⟩
  rw [show (d + 1).toNat - d.toNat = 1 from by omega]
  exact this
theorem text_step {n k d : Int} {s : List UInt8} (hk : k ≠ 0) (hd0 : 0 ≤ d) (hd : d.natAbs = (k.tmod 10).natAbs) (h : dig k ++ s = dig n) :
    dig (k.tdiv 10) ++ ((([48, 49, 50, 51, 52, 53, 54, 55, 56, 57] : List UInt8).drop d.toNat).take ((d + 1).toNat - d.toNat) ++ s) = dig n := by
  have hp := (t_parts k).2.2.2.2.2.2
  rw [digit_cut (m := k.natAbs % 10) hd0 (by omega) (by omega), ← h, dig_step hk, List.append_assoc]

/-! ### Parse: digit by digit -/

/-! ### As the walks ask for it -/
theorem quo_wrap {k : Int} (hk : I64 k) : IntKind.i64.wrap (Int.tdiv k 10) = Int.tdiv k 10 := by
  unfold I64 at hk
  have h := t_parts k
  exact in_i64 (by omega)
theorem quo_I64 {k : Int} (hk : I64 k) : I64 (Int.tdiv k 10) := by
  unfold I64 at hk ⊢
  have h := t_parts k
  omega
theorem neg_wrap {k : Int} : IntKind.i64.wrap (0 - Int.tmod k 10) = -(Int.tmod k 10) := by
  have h := t_parts k
  rw [in_i64 (by omega)]
  omega
theorem low {k : Int} : k - Int.tdiv k 10 * 10 = Int.tmod k 10 := by
  have h := (t_parts k).1
  omega
theorem short {n k : Int} {t : List UInt8} (hn : I64 n) (h : dig k ++ t = dig n) : t.length ≤ 21 := by
  have h1 := dig_len hn
  have h2 := congrArg List.length h
  rw [List.length_append] at h2
  omega
theorem itoa_zero : Lib.itoa 0 = [48] := by rw [itoa_pos (by omega), dec_small (by decide)]; rfl
theorem text_neg {n : Int} {t : List UInt8} (h : n < 0) (hst : dig 0 ++ t = dig n) : Lib.itoa n = [45] ++ t := by
  rw [itoa_dig (by omega), if_pos h, ← hst]; rfl
theorem text_pos {n : Int} {t : List UInt8} (h : ¬ n < 0) (h0 : n ≠ 0) (hst : dig 0 ++ t = dig n) : Lib.itoa n = t := by
  rw [itoa_dig h0, if_neg h, ← hst]; rfl
def Sg (s : List UInt8) (fr : Nat) : Prop := (fr = 1 ∧ ∃ c, s[0]? = some c ∧ c.toNat = 45) ∨ (fr = 0 ∧ ∀ c, s[0]? = some c → c.toNat ≠ 45)
end Go.LK.Dc

namespace Go.LK.Dc
open Go Go.LK

end Go.LK.Dc
