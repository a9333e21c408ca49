/-
  What the rows' condition on the package variables gives the walks.
-/
import Derived.Test.YtnfkoohgdcocdaaDoorLaw5
import Derived.Test.YtnfkoohgdcocdaaDoorRows
import Derived.Test.YtnfkoohgdcocdaaDoorTie
import Derived.Test.YtnfkoohgdcocdaaDoorCards
import Derived.Test.YtnfkoohgdcocdaaDoorTX1
import Derived.Test.YtnfkoohgdcocdaaDoorDX1
import Derived.ProofKit
import Derived.LaidLaws
import Derived.Lay
import Derived.LaidMore
import Derived.LaidByTextLater
namespace Go.Proofs.YtnfkoohgdcocdaaDoor
open Go Go.LK Go.ChangeShapes Go.WideShapes Go.ChangeAt Go.RowKit
set_option maxRecDepth 100000

theorem Tryd.own : ownKnob Tryd.prog.godebug = none := by kernel_rfl
theorem Tryd.laidOut : laidOutB Tryd.prog = true := by kernel_rfl
abbrev laidL : List (String × DataW Unit) := [("math/bits.deBruijn32tab", Rows.laid_math_bits_deBruijn32tab), ("math/bits.deBruijn64tab", Rows.laid_math_bits_deBruijn64tab), ("internal/strconv.uint64pow10", Rows.laid_internal_strconv_uint64pow10), ("strconv.ErrRange", Rows.laid_strconv_ErrRange), ("strconv.ErrSyntax", Rows.laid_strconv_ErrSyntax), ("lockkeeper/trace.names", Rows.laid_lockkeeper_trace_names)]
theorem door_met (os : Os) (args : Array Value) : laidMetH Tryd.prog laidL ((World.laidAll Tryd.prog os laidL).forCall (fun _ _ => 0) ⟨#[], args, []⟩).memory := by
  rw [MakeChecks.laidMetH_plain _ _ _ (by kernel_rfl)]
  exact laidMet_laidAll _ (by kernel_rfl) (by kernel_rfl)
theorem gL0 : Tryd.prog.globalNamed "math/bits.deBruijn32tab" = some 6 := by kernel_rfl
theorem tL0 : (Tryd.prog.globals[6]?).map (·.type) = some 224 := by kernel_rfl
theorem gL1 : Tryd.prog.globalNamed "math/bits.deBruijn64tab" = some 7 := by kernel_rfl
theorem tL1 : (Tryd.prog.globals[7]?).map (·.type) = some 225 := by kernel_rfl
theorem gL2 : Tryd.prog.globalNamed "internal/strconv.uint64pow10" = some 5 := by kernel_rfl
theorem tL2 : (Tryd.prog.globals[5]?).map (·.type) = some 213 := by kernel_rfl
theorem gL3 : Tryd.prog.globalNamed "strconv.ErrRange" = some 3 := by kernel_rfl
theorem tL3 : (Tryd.prog.globals[3]?).map (·.type) = some 117 := by kernel_rfl
theorem gL4 : Tryd.prog.globalNamed "strconv.ErrSyntax" = some 2 := by kernel_rfl
theorem tL4 : (Tryd.prog.globals[2]?).map (·.type) = some 117 := by kernel_rfl
theorem gL5 : Tryd.prog.globalNamed "lockkeeper/trace.names" = some 0 := by kernel_rfl
theorem tL5 : (Tryd.prog.globals[0]?).map (·.type) = some 111 := by kernel_rfl
theorem cells_of_var {P : Program} {W : World} {name : String} {g : Nat} {cs : Array Value} (hg : P.globalNamed name = some g) (h : W.var? P name = some cs) : ∃ t p, W.heap[g]? = some (.cells cs t p) := by
  unfold World.var? at h
  rw [hg] at h
  simp only [Option.bind_some] at h
  split at h
  · rename_i c t p hh
    cases h
    exact ⟨t, p, hh⟩
  · cases h
/-- What the condition on the first world gives the walks. -/
theorem of_laid {W : World} (hsh : W.ShapedOpen Tryd.prog) (h : laidMetH Tryd.prog laidL W) : libW.holds W := by
  rw [MakeChecks.laidMetH_plain _ _ _ (by kernel_rfl)] at h
  obtain ⟨ps, ⟨g0, t0, cs0, f0, p0, q0, hg0, ht0, hv0, hd0, ⟨g1, t1, cs1, f1, p1, q1, hg1, ht1, hv1, hd1, ⟨g2, t2, cs2, f2, p2, q2, hg2, ht2, hv2, hd2, ⟨g3, t3, cs3, f3, p3, q3, hg3, ht3, hv3, hd3, ⟨g4, t4, cs4, f4, p4, q4, hg4, ht4, hv4, hd4, ⟨g5, t5, cs5, f5, p5, q5, hg5, ht5, hv5, hd5, _, _⟩, _⟩, _⟩, _⟩, _⟩, _⟩, _, _⟩ := h
  obtain rfl := Option.some.inj (gL2.symm.trans hg2)
  obtain rfl := Option.some.inj (tL2.symm.trans ht2)
  obtain rfl := Option.some.inj (gL3.symm.trans hg3)
  obtain rfl := Option.some.inj (tL3.symm.trans ht3)
  obtain rfl := Option.some.inj (gL4.symm.trans hg4)
  obtain rfl := Option.some.inj (tL4.symm.trans ht4)
  have herr3 : errV W 3 := by
    obtain ⟨f', u, v, hcs, _, _⟩ := iface_of_trod Tryd.underlying117 hd3
    have hc := World.var?_cell hg3 hv3 0
    rw [Array.eq_one_of_toList hcs] at hc
    exact ⟨.iface u v, by simpa using hc, .inr ⟨u, v, rfl⟩⟩
  have herr4 : errV W 2 := by
    obtain ⟨f', u, v, hcs, _, _⟩ := iface_of_trod Tryd.underlying117 hd4
    have hc := World.var?_cell hg4 hv4 0
    rw [Array.eq_one_of_toList hcs] at hc
    exact ⟨.iface u v, by simpa using hc, .inr ⟨u, v, rfl⟩⟩
  refine ⟨Tryd.laysM145.s1_3 W hsh, ?_, herr4, herr3⟩
  obtain ⟨t, p, hh⟩ := cells_of_var hg2 hv2
  refine ⟨t, p, ?_⟩
  have hc := Lib.cells_of_tab (zs := Lib.pow10Tab) (k := .u64) Tryd.underlying213 Tryd.underlying190 (by kernel_rfl) (by kernel_rfl) hd2
  rw [hh, ← hc, Array.toArray_toList]
theorem of_lockkeeper_trace_names {W : World} (hsh : W.ShapedOpen Tryd.prog) (h : laidMetH Tryd.prog laidL W) : (var 0 (Tc.kinds.map vS) 111).holds W := by
  rw [MakeChecks.laidMetH_plain _ _ _ (by kernel_rfl)] at h
  obtain ⟨ps, ⟨g0, t0, cs0, f0, p0, q0, hg0, ht0, hv0, hd0, ⟨g1, t1, cs1, f1, p1, q1, hg1, ht1, hv1, hd1, ⟨g2, t2, cs2, f2, p2, q2, hg2, ht2, hv2, hd2, ⟨g3, t3, cs3, f3, p3, q3, hg3, ht3, hv3, hd3, ⟨g4, t4, cs4, f4, p4, q4, hg4, ht4, hv4, hd4, ⟨g5, t5, cs5, f5, p5, q5, hg5, ht5, hv5, hd5, _, _⟩, _⟩, _⟩, _⟩, _⟩, _⟩, _, _⟩ := h
  obtain rfl := Option.some.inj (gL5.symm.trans hg5)
  obtain rfl := Option.some.inj (tL5.symm.trans ht5)
  have hc := cells_of_strs (zs := Tc.kinds) Tryd.underlying111 Tryd.underlying9 (by kernel_rfl) (by kernel_rfl) hd5
  obtain ⟨cs, hh, _⟩ := hsh.1 0 (Array.replicate 15 (.string ByteArray.empty)) 111 (of_decide_eq_true (by kernel_rfl)) (by kernel_rfl)
  obtain ⟨t, p, hh2⟩ := cells_of_var hg5 hv5
  rw [hh] at hh2
  have hcs : cs = cs5 := by
    injection hh2 with h1
    injection h1
  show W.heap[0]? = some (.cells (Tc.kinds.map vS).toArray 111 (0, 0))
  rw [hh, hcs, ← Array.toArray_toList (xs := cs5), hc]
theorem EvI_of (g : Nat → Int) (hb : ∀ j, j < 7 → -9223372036854775808 ≤ g j ∧ g j ≤ 9223372036854775807) : Tc.EvI ⟨g 0, g 1, g 2, g 3, g 4, g 5, g 6⟩ :=
  ⟨hb 0 (by decide), hb 1 (by decide), hb 2 (by decide), hb 3 (by decide), hb 4 (by decide), hb 5 (by decide), hb 6 (by decide)⟩
theorem EvsI_of {l : List Ev} (h : ∀ a ∈ l, ∃ g : Nat → Int, a = Ev.of g ∧ ∀ j, j < 7 → -9223372036854775808 ≤ g j ∧ g j ≤ 9223372036854775807) : Tc.EvsI l := fun v hv => by
  obtain ⟨g, rfl, hb⟩ := h v hv
  exact EvI_of g hb

end Go.Proofs.YtnfkoohgdcocdaaDoor
