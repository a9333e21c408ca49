/-
  What is told comes back: digits to the base 16, and numbers in a row.
-/
import Derived.Test.YtopemccmejgbpaaDoorDec3
import Derived.Test.YtopemccmejgbpaaDoorHex0
namespace Go.LK.Hx
open Go Go.LK
theorem accH_app {l : List UInt8} {c : UInt8} : ∀ {i : Nat}, i ≤ l.length → accH (l ++ [c]) i = accH l i
  | 0, _ => rfl
  | i + 1, h => by
    have ih := accH_app (l := l) (c := c) (i := i) (by omega)
    simp only [accH, ih]
    rw [List.getElem?_append_left (by omega)]
theorem acc_hexL : ∀ (k n : Nat), accH (hexL n k) k = some (n % 16 ^ k)
  | 0, n => by simp [accH, Nat.mod_one]
  | k + 1, n => by
    have ih := acc_hexL k (n / 16)
    have hl := hexL_len k (n / 16)
    have h1 : accH (hexL (n / 16) k ++ [hx (n % 16)]) k = some (n / 16 % 16 ^ k) := by rw [accH_app (by omega)]; exact ih
    have h2 : (hexL (n / 16) k ++ [hx (n % 16)])[k]? = some (hx (n % 16)) := by rw [List.getElem?_append_right (by omega), hl]; simp
    have h3 := accH_next h1 h2 (hv_at (hx_get (by omega)))
    rw [hexL, h3, Nat.pow_succ, Nat.mul_comm (16 ^ k) 16, Nat.mod_mul]
    congr 1
    omega
theorem hex_back {n : Nat} (h : n < 18446744073709551616) : parse (hexL n 16) = (n, 0) :=
  parse_ok (hexL_len 16 n) (by rw [acc_hexL, Nat.mod_eq_of_lt h])
end Go.LK.Hx
namespace Go.LK.Dc
open Go Go.LK
theorem join_cons2 {t : List UInt8} {r : List (List UInt8)} (h : r ≠ []) : Lib.join (t :: r) [44] = t ++ ([44] ++ Lib.join r [44]) := by
  cases r with
  | nil => exact absurd rfl h
  | cons u r =>
    rw [Lib.join_cons, Lib.join_cons]
    unfold Lib.joinTail
    simp
theorem split_ne (s : List UInt8) : Lib.split s [44] ≠ [] := by
  unfold Lib.split
  cases Lib.count s [44] with
  | zero => simp [Lib.splitK]
  | succ k => unfold Lib.splitK; split <;> simp
theorem split_join : ∀ (ts : List (List UInt8)), ts ≠ [] → (∀ t ∈ ts, ∀ c ∈ t, c.toNat ≠ 44) → Lib.split (Lib.join ts [44]) [44] = ts
  | [], h, _ => absurd rfl h
  | [t], _, h => by
    rw [Lib.join_one]
    exact split_miss fun j c _ _ hc => h t (by simp) c (List.mem_of_getElem? hc)
  | t :: u :: r, _, h => by
    have ih := split_join (u :: r) (by simp) (fun x hx => h x (List.mem_cons_of_mem _ hx))
    rw [join_cons2 (by simp)]
    have h1 : noSep (t ++ ([44] ++ Lib.join (u :: r) [44])) 0 t.length := fun j c _ hj hc => by
      rw [List.getElem?_append_left hj] at hc
      exact h t (by simp) c (List.mem_of_getElem? hc)
    have h2 : (t ++ ([44] ++ Lib.join (u :: r) [44]))[t.length]? = some 44 := by rw [List.getElem?_append_right (Nat.le_refl _)]; simp
    rw [split_hit h1 h2]
    have h3 : (t ++ ([44] ++ Lib.join (u :: r) [44])).take t.length = t := by simp
    have h4 : (t ++ ([44] ++ Lib.join (u :: r) [44])).drop (t.length + 1) = Lib.join (u :: r) [44] := by
      rw [← List.drop_drop]; simp
    rw [h3, h4, ih]
theorem join_split : ∀ (n : Nat) (s : List UInt8), s.length ≤ n → Lib.join (Lib.split s [44]) [44] = s := fun n => by
  induction n with
  | zero =>
    intro s hs
    have : s = [] := List.eq_nil_of_length_eq_zero (by omega)
    subst this
    rw [split_miss (fun j c _ hj _ => by simp at hj), Lib.join_one]
  | succ n ih =>
    intro s hs
    rcases Lib.index_spec s [44] with ⟨_, h2⟩ | ⟨i, _, _, h3, h4⟩
    · rw [split_miss (fun j c _ hj hc h44 => by
        have hc' : c = 44 := UInt8.toNat_inj.1 h44
        subst hc'
        have := h2 j (by omega)
        rw [occ_sep.2 hc] at this
        cases this), Lib.join_one]
    · have hi := occ_sep.1 h3
      have hlt := (List.getElem?_eq_some_iff.1 hi).1
      have hno : noSep s 0 i := fun j c _ hj hc h44 => by
        have hc' : c = 44 := UInt8.toNat_inj.1 h44
        subst hc'
        have := h4 j hj
        rw [occ_sep.2 hc] at this
        cases this
      rw [split_hit hno hi, join_cons2 (split_ne _), ih (s.drop (i + 1)) (by rw [List.length_drop]; omega)]
      have he := (List.getElem?_eq_some_iff.1 hi).2
      have := List.take_append_drop i s
      rw [List.drop_eq_getElem_cons hlt, he] at this
      exact this
theorem itoa_no {n : Int} : ∀ c ∈ Lib.itoa n, c.toNat ≠ 44 := fun c hc => by
  by_cases h : n < 0
  · rw [itoa_min h, List.mem_cons] at hc
    rcases hc with rfl | hc
    · decide
    · have := dec_isD _ c hc; unfold isD at this; omega
  · rw [itoa_pos (by omega)] at hc
    have := dec_isD _ c hc; unfold isD at this; omega
theorem plU_all {l : List Int} (h : I64s l) : ∀ k, k ≤ l.length → plU (l.map Lib.itoa) k = some (l.take k)
  | 0, _ => rfl
  | k + 1, hk => by
    have ih := plU_all h k (by omega)
    have hx : l[k]? = some l[k] := List.getElem?_eq_getElem (by omega)
    have hp : (l.map Lib.itoa)[k]? = some (Lib.itoa l[k]) := by rw [List.getElem?_map, hx]; rfl
    have h0 := parse_some (h _ (List.mem_of_getElem? hx))
    rw [plU_next ih hp (by rw [h0]), h0, List.take_succ_eq_append_getElem (by omega)]
theorem list_back {l : List Int} (h : I64s l) : parseList (listText l) = (l, 0) := by
  by_cases h0 : l.length = 0
  · have : l = [] := List.eq_nil_of_length_eq_zero h0
    subst this
    exact pl_dash (by rfl)
  · have hne : l.map Lib.itoa ≠ [] := fun he => by
      have := congrArg List.length he
      rw [List.length_map, List.length_nil] at this
      omega
    have hsp := split_join (l.map Lib.itoa) hne (fun t ht c hc => by obtain ⟨x, _, rfl⟩ := List.mem_map.1 ht; exact itoa_no c hc)
    rw [lt_all h0]
    have hd : (Lib.join (l.map Lib.itoa) [44] == [45]) = false := by
      rw [beq_eq_false_iff_ne]
      intro he
      rw [he, split_miss (fun j c _ hj hc => by
        have hj0 : j = 0 := by simp at hj; omega
        subst hj0
        simp at hc
        subst hc
        decide)] at hsp
      cases l with
      | nil => simp at h0
      | cons x r =>
        rw [List.map_cons] at hsp
        injection hsp with h1 _
        have h2 := parse_some (h x (by simp))
        rw [← h1] at h2
        have h3 := parse_early (s := [45]) (fr := 1) (.inl ⟨rfl, 45, rfl, rfl⟩) (.inl rfl)
        rw [h2] at h3
        injection h3 with _ h4
        cases h4
    refine pl_all hd ?_
    rw [hsp, List.length_map, plU_all h l.length (Nat.le_refl _), List.take_length]
theorem plU_text {ps : List (List UInt8)} : ∀ {k : Nat} {out : List Int}, plU ps k = some out → out.map Lib.itoa = ps.take k
  | 0, out, h => by simp [plU] at h; subst h; simp
  | k + 1, out, h => by
    simp only [plU] at h
    split at h
    · rename_i o p ho hp
      split at h
      · rename_i h0
        cases h
        have ih := plU_text ho
        obtain ⟨hlt, rfl⟩ := List.getElem?_eq_some_iff.1 hp
        rw [List.map_append, ih, List.take_succ_eq_append_getElem hlt]
        rcases parse_cases ps[k] with ⟨n, _, hs, hp2⟩ | ⟨hp2, _⟩
        · rw [hp2]; show _ ++ [Lib.itoa n] = _; rw [← hs]
        · rw [hp2] at h0; simp at h0
      · cases h
    · cases h
theorem lt_len {l : List Int} (h : I64s l) : (listText l).length ≤ 22 * l.length + 1 := by
  by_cases h0 : l.length = 0
  · rw [lt_nil h0]; simp
  · rw [lt_joinU h0]
    have := joinU_len h l.length
    omega
theorem plU_I64 {ps : List (List UInt8)} : ∀ {k : Nat} {out : List Int}, plU ps k = some out → I64s out
  | 0, out, h => by simp [plU] at h; subst h; simp [I64s]
  | k + 1, out, h => by
    simp only [plU] at h
    split at h
    · rename_i o p ho hp
      split at h
      · rename_i h0
        cases h
        have ih := plU_I64 ho
        intro x hx
        rw [List.mem_append, List.mem_singleton] at hx
        rcases hx with hx | rfl
        · exact ih x hx
        · rcases parse_cases p with ⟨n, hn, _, hp2⟩ | ⟨hp2, _⟩
          · rw [hp2]; exact hn
          · rw [hp2]; unfold I64; omega
      · cases h
    · cases h
theorem pl_I64 (s : List UInt8) : I64s (parseList s).1 := by
  unfold parseList
  split
  · simp [I64s]
  · unfold parseParts
    split
    · rename_i out h
      exact plU_I64 h
    · simp [I64s]
theorem text_back {s : List UInt8} (h : (parseList s).2 = 0) : listText (parseList s).1 = s := by
  unfold parseList at h ⊢
  split
  · rename_i hs; rw [hs]; rfl
  · rename_i hs
    rw [if_neg hs] at h
    unfold parseParts at h ⊢
    split
    · rename_i out ho
      have h1 := plU_text ho
      rw [List.take_length] at h1
      have hl := plU_len ho
      have hne := split_ne s
      have h0 : ¬ out.length = 0 := fun he => hne (List.eq_nil_of_length_eq_zero (by omega))
      show listText out = s
      rw [lt_all h0, h1, join_split s.length s (Nat.le_refl _)]
    · rename_i ho
      rw [ho] at h
      simp at h
end Go.LK.Dc
