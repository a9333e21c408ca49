/-
  What the rows' condition on the package variables gives the walks.
-/
import Derived.Test.YtnkhmbbnabejhaaGreatDoorLawA
import Derived.Test.YtnkhmbbnabejhaaGreatDoorRows
import Derived.Test.YtnkhmbbnabejhaaGreatDoorTie
import Derived.Test.YtnkhmbbnabejhaaGreatDoorCards
import Derived.Test.YtnkhmbbnabejhaaGreatDoorDX1
import Derived.Test.YtnkhmbbnabejhaaGreatDoorRX1
import Derived.ProofKit
import Derived.LaidLaws
import Derived.Lay
import Derived.LaidMore
import Derived.LaidByTextLater
namespace Go.Proofs.YtnkhmbbnabejhaaGreatDoor
open Go Go.LK Go.ChangeShapes Go.WideShapes Go.ChangeAt Go.RowKit
set_option maxRecDepth 100000

theorem Tryz.own : ownKnob Tryz.prog.godebug = none := by kernel_rfl
theorem Tryz.laidOut : laidOutB Tryz.prog = true := by kernel_rfl
abbrev laidL : List (String × DataW Unit) := [("math/bits.deBruijn32tab", Rows.laid_math_bits_deBruijn32tab), ("math/bits.deBruijn64tab", Rows.laid_math_bits_deBruijn64tab), ("internal/strconv.uint64pow10", Rows.laid_internal_strconv_uint64pow10), ("strconv.ErrRange", Rows.laid_strconv_ErrRange), ("strconv.ErrSyntax", Rows.laid_strconv_ErrSyntax)]
theorem door_met (os : Os) (args : Array Value) : laidMetH Tryz.prog laidL ((World.laidAll Tryz.prog os laidL).forCall (fun _ _ => 0) ⟨#[], args, []⟩).memory := by
  rw [MakeChecks.laidMetH_plain _ _ _ (by kernel_rfl)]
  exact laidMet_laidAll _ (by kernel_rfl) (by kernel_rfl)
theorem gL2 : Tryz.prog.globalNamed "internal/strconv.uint64pow10" = some 3 := by kernel_rfl
theorem tL2 : (Tryz.prog.globals[3]?).map (·.type) = some 158 := by kernel_rfl
theorem gL3 : Tryz.prog.globalNamed "strconv.ErrRange" = some 1 := by kernel_rfl
theorem tL3 : (Tryz.prog.globals[1]?).map (·.type) = some 86 := by kernel_rfl
theorem gL4 : Tryz.prog.globalNamed "strconv.ErrSyntax" = some 0 := by kernel_rfl
theorem tL4 : (Tryz.prog.globals[0]?).map (·.type) = some 86 := by kernel_rfl
theorem cells_of_var {P : Program} {W : World} {name : String} {g : Nat} {cs : Array Value} (hg : P.globalNamed name = some g) (h : W.var? P name = some cs) : ∃ t p, W.heap[g]? = some (.cells cs t p) := by
  unfold World.var? at h
  rw [hg] at h
  simp only [Option.bind_some] at h
  split at h
  · rename_i c t p hh
    cases h
    exact ⟨t, p, hh⟩
  · cases h
/-- What the condition on the first world gives the walks. -/
theorem of_laid {W : World} (hsh : W.ShapedOpen Tryz.prog) (h : laidMetH Tryz.prog laidL W) : libW.holds W := by
  rw [MakeChecks.laidMetH_plain _ _ _ (by kernel_rfl)] at h
  obtain ⟨ps, ⟨g0, t0, cs0, f0, p0, q0, hg0, ht0, hv0, hd0, ⟨g1, t1, cs1, f1, p1, q1, hg1, ht1, hv1, hd1, ⟨g2, t2, cs2, f2, p2, q2, hg2, ht2, hv2, hd2, ⟨g3, t3, cs3, f3, p3, q3, hg3, ht3, hv3, hd3, ⟨g4, t4, cs4, f4, p4, q4, hg4, ht4, hv4, hd4, _, _⟩, _⟩, _⟩, _⟩, _⟩, _, _⟩ := h
  obtain rfl := Option.some.inj (gL2.symm.trans hg2)
  obtain rfl := Option.some.inj (tL2.symm.trans ht2)
  obtain rfl := Option.some.inj (gL3.symm.trans hg3)
  obtain rfl := Option.some.inj (tL3.symm.trans ht3)
  obtain rfl := Option.some.inj (gL4.symm.trans hg4)
  obtain rfl := Option.some.inj (tL4.symm.trans ht4)
  have herr3 : errV W 1 := by
    obtain ⟨f', u, v, hcs, _, _⟩ := iface_of_trod Tryz.underlying86 hd3
    have hc := World.var?_cell hg3 hv3 0
    rw [Array.eq_one_of_toList hcs] at hc
    exact ⟨.iface u v, by simpa using hc, .inr ⟨u, v, rfl⟩⟩
  have herr4 : errV W 0 := by
    obtain ⟨f', u, v, hcs, _, _⟩ := iface_of_trod Tryz.underlying86 hd4
    have hc := World.var?_cell hg4 hv4 0
    rw [Array.eq_one_of_toList hcs] at hc
    exact ⟨.iface u v, by simpa using hc, .inr ⟨u, v, rfl⟩⟩
  refine ⟨Go.Proofs.cell_of_shapedOpen_int (g := 2) (zero := #[.int .i64 0]) (t := 3) hsh (of_decide_eq_true (by kernel_rfl)) (by kernel_rfl) rfl (by kernel_rfl) (by kernel_rfl) Tryz.underlying3, ?_, herr4, herr3⟩
  obtain ⟨t, p, hh⟩ := cells_of_var hg2 hv2
  refine ⟨t, p, ?_⟩
  have hc := Lib.cells_of_tab (zs := Lib.pow10Tab) (k := .u64) Tryz.underlying158 Tryz.underlying138 (by kernel_rfl) (by kernel_rfl) hd2
  rw [hh, ← hc, Array.toArray_toList]
theorem okWide_array {P : Program} {W : World} {r : Reach} {base n : Nat} {t e : TypeId} {v : Value} (ht : P.underlying t = some (.array n e)) (h : Value.okWide P W r base t v) : ∃ cs, v = .agg cs ∧ cs.size = P.cellsOf t := by
  unfold Value.okWide at h
  rw [ht] at h
  obtain ⟨cs, h1, h2, _⟩ := h
  exact ⟨cs, h1, h2⟩
theorem open_T33 {H : Type} {enc : TypeId × Value → H} {W : World} {cs : List Value} (h : Rdb enc Tryz.prog W 33 cs) : ∃ (x0 : Int) (x1 : Int) (x2 : Int), cs = [.int .i64 x0, .int .i64 x1, .int .i64 x2] ∧ (Kn.I64s [x0, x1, x2]) := by
  have h0 : Rdb enc Tryz.prog W 3 ((cs.drop 0).take 1) := by
    have h_ : Rdb enc Tryz.prog W 3 ((cs.drop 0).take (Tryz.prog.cellsOf 3)) := by
      have h2_ := h.at Tryz.underlying33 0 (by decide); rwa [show 0 * Tryz.prog.cellsOf 3 = 0 by kernel_rfl] at h2_
    rwa [show Tryz.prog.cellsOf 3 = 1 by kernel_rfl] at h_
  obtain ⟨x0, e0, b0⟩ := h0.int Tryz.underlying3
  have h1 : Rdb enc Tryz.prog W 3 ((cs.drop 1).take 1) := by
    have h_ : Rdb enc Tryz.prog W 3 ((cs.drop 1).take (Tryz.prog.cellsOf 3)) := by
      have h2_ := h.at Tryz.underlying33 1 (by decide); rwa [show 1 * Tryz.prog.cellsOf 3 = 1 by kernel_rfl] at h2_
    rwa [show Tryz.prog.cellsOf 3 = 1 by kernel_rfl] at h_
  obtain ⟨x1, e1, b1⟩ := h1.int Tryz.underlying3
  have h2 : Rdb enc Tryz.prog W 3 ((cs.drop 2).take 1) := by
    have h_ : Rdb enc Tryz.prog W 3 ((cs.drop 2).take (Tryz.prog.cellsOf 3)) := by
      have h2_ := h.at Tryz.underlying33 2 (by decide); rwa [show 2 * Tryz.prog.cellsOf 3 = 2 by kernel_rfl] at h2_
    rwa [show Tryz.prog.cellsOf 3 = 1 by kernel_rfl] at h_
  obtain ⟨x2, e2, b2⟩ := h2.int Tryz.underlying3
  have hI : Kn.I64s [x0, x1, x2] := by
    intro x hx
    simp only [List.mem_cons, List.not_mem_nil, or_false] at hx
    rcases hx with rfl | rfl | rfl <;> assumption
  have hc : cs = [.int .i64 x0, .int .i64 x1, .int .i64 x2] := (List.drop_zero (l := cs)).symm.trans (by rw [cut_next (m := 1) e0 rfl, cut_next (m := 2) e1 rfl, cut_next (m := 3) e2 rfl, cut_end (m := 3) (by rw [h.alen Tryz.underlying33]; kernel_rfl)]; rfl)
  exact ⟨x0, x1, x2, hc, hI⟩
theorem open_T35 {H : Type} {enc : TypeId × Value → H} {W : World} {cs : List Value} (h : Rdb enc Tryz.prog W 35 cs) : ∃ (v0 : Value) (l0 : List Int) (v1 : Value) (l1 : List Int), cs = [v0, v1] ∧ (Elt W v0 1 (l0.map encZ)) ∧ (∀ x ∈ l0, Dc.I64 x) ∧ (Elt W v1 1 (l1.map encZ)) ∧ (∀ x ∈ l1, Dc.I64 x) := by
  have h0 : Rdb enc Tryz.prog W 34 ((cs.drop 0).take 1) := by
    have h_ : Rdb enc Tryz.prog W 34 ((cs.drop 0).take (Tryz.prog.cellsOf 34)) := by
      have h2_ := h.at Tryz.underlying35 0 (by decide); rwa [show 0 * Tryz.prog.cellsOf 34 = 0 by kernel_rfl] at h2_
    rwa [show Tryz.prog.cellsOf 34 = 1 by kernel_rfl] at h_
  obtain ⟨v0, l0, e0, E0, q0⟩ := h0.zs Tryz.underlying34 Tryz.underlying3 (by kernel_rfl)
  have h1 : Rdb enc Tryz.prog W 34 ((cs.drop 1).take 1) := by
    have h_ : Rdb enc Tryz.prog W 34 ((cs.drop 1).take (Tryz.prog.cellsOf 34)) := by
      have h2_ := h.at Tryz.underlying35 1 (by decide); rwa [show 1 * Tryz.prog.cellsOf 34 = 1 by kernel_rfl] at h2_
    rwa [show Tryz.prog.cellsOf 34 = 1 by kernel_rfl] at h_
  obtain ⟨v1, l1, e1, E1, q1⟩ := h1.zs Tryz.underlying34 Tryz.underlying3 (by kernel_rfl)
  have hc : cs = [v0, v1] := (List.drop_zero (l := cs)).symm.trans (by rw [cut_next (m := 1) e0 rfl, cut_next (m := 2) e1 rfl, cut_end (m := 2) (by rw [h.alen Tryz.underlying35]; kernel_rfl)]; rfl)
  exact ⟨v0, l0, v1, l1, hc, E0, q0, E1, q1⟩

end Go.Proofs.YtnkhmbbnabejhaaGreatDoor
