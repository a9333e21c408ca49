/-
  A table of texts that the row lists; a struct of a text and an integer that came by value.
-/
import Derived.Test.YtnfkoohgdcocdaaDoorLaw4
import Derived.Test.YtnfkoohgdcocdaaDoorLk24
import Derived.Test.YtnfkoohgdcocdaaDoorKnob0
import Derived.Test.YtnfkoohgdcocdaaDoorLaw1
import Derived.LaidLaws
import Derived.ChangeSame
namespace Go.LK
open Go Go.RowKit Go.ChangeShapes Go.WideShapes Go.ChangeAt
section
variable {H : Type} {enc : TypeId × Value → H} {P : Program} {W : World}
theorem cells_of_strs {w : World} {base : Nat} {sp : Nat → Bool} {held : Bool} {fuel : Nat} {t e : TypeId} {n : Nat} {cs : List Value} {zs : List (List UInt8)} {p : List MemPlace}
    (ht : P.underlying t = some (.array n e)) (he : P.underlying e = some .string) (hce : P.cellsOf e = 1) (hct : P.cellsOf t = n)
    (h : DataW.trod enc P w base sp held fuel t cs = some ((DataW.agg (zs.map fun z => DataW.lit (.string z))), p)) : cs = zs.map vS := by
  cases fuel with
  | zero => simp [DataW.trod] at h
  | succ fuel =>
    simp only [DataW.trod, ht, hce, hct, Nat.mul_one] at h
    split at h
    · rename_i hl
      obtain ⟨xs, hm, hx⟩ := Option.map_eq_some_iff.1 h
      have hxs : xs.map (·.1) = zs.map fun z => (DataW.lit (.string z) : DataW H) := by
        have := congrArg Prod.fst hx
        simpa using this
      have hxl : xs.length = n := by simpa using Lib.mapM_length hm
      have hzl : zs.length = n := by
        have := congrArg List.length hxs
        simp at this
        omega
      apply List.ext_getElem?
      intro i
      by_cases hi : i < n
      · obtain ⟨b, hb, hf⟩ := Lib.mapM_at hm i i (by simp [hi])
        obtain ⟨z, hc, rfl, _⟩ := DataW.trod_string he hf
        have h1 : cs[i]? = some (.string z) := by
          have := congrArg (·[0]?) hc
          simpa [List.getElem?_take, List.getElem?_drop] using this
        have h2 : (xs.map (·.1))[i]? = some (DataW.lit (.string z.data.toList) : DataW H) := by simp [hb]
        rw [hxs] at h2
        simp only [List.getElem?_map, Option.map_eq_some_iff, DataW.lit.injEq, Lit.string.injEq] at h2
        obtain ⟨z', hz', h3⟩ := h2
        rw [h1, List.getElem?_map, hz', h3]
        exact congrArg some (str_of z)
      · rw [List.getElem?_eq_none (by omega), List.getElem?_eq_none (by simp; omega)]
    · cases h

theorem open_sn {t : TypeId} {f0 f1 : Field} {v : Value} {d : DataW H} {p : List MemPlace} {base : Nat} (ht : P.underlying t = some (.struct #[f0, f1])) (o0 : f0.offset = 0) (o1 : f1.offset = 1) (h0 : P.underlying f0.type = some .string) (h1 : P.underlying f1.type = some (.int .i64))
    (c : P.cellsOf t = 2) (c0 : P.cellsOf f0.type = 1) (c1 : P.cellsOf f1.type = 1) (hv : Value.okWide P W .any base t v) (h : DataW.Trod enc P W 0 (fun _ => true) true t v d p) :
    ∃ (l : List UInt8) (x : Int), v = .agg #[str l, .int .i64 x] ∧ Dc.I64 x := by
  obtain ⟨cs, rfl, hcs⟩ := okWide_struct ht hv
  obtain ⟨fuel, hf⟩ := h
  obtain ⟨y0, y1, n, _, hl, g0, g1⟩ := trod_struct2 ht hf
  rw [o0, c0] at g0
  rw [o1, c1] at g1
  obtain ⟨s, e0, _, _⟩ := DataW.trod_string h0 g0
  obtain ⟨x, e1, _, hwf⟩ := DataW.trod_int h1 g1
  have hsz : cs.size = 2 := by rw [hcs, c]
  obtain ⟨⟨l⟩⟩ := s
  refine ⟨l, x, ?_, i64_of hwf⟩
  have hcl : (Value.agg cs).cells.toList = cs.toList := rfl
  rw [hcl] at e0 e1
  have ht2 : cs.toList = [.string ⟨⟨l⟩⟩, .int .i64 x] := by
    match hm : cs.toList, (by simpa using hsz : cs.toList.length = 2) with
    | [a, b], _ =>
      rw [hm] at e0 e1
      simp at e0 e1
      rw [e0, e1]
  congr 1
  rw [← Array.toArray_toList (xs := cs), ht2]
end
theorem i64s7 {g : Nat → Int} (hb : ∀ j, j < 7 → -9223372036854775808 ≤ g j ∧ g j ≤ 9223372036854775807) : Kn.I64s [g 0, g 1, g 2, g 3, g 4, g 5, g 6] := by
  intro x hx
  simp only [List.mem_cons, List.not_mem_nil, or_false] at hx
  rcases hx with rfl | rfl | rfl | rfl | rfl | rfl | rfl <;> exact hb _ (by decide)
end Go.LK
