/-
  What the rows' condition on the package variables gives the walks.
-/
import Derived.Test.YtilcmkegbmppnaaDoorLawA
import Derived.Test.YtilcmkegbmppnaaDoorRows
import Derived.Test.YtilcmkegbmppnaaDoorTie
import Derived.Test.YtilcmkegbmppnaaDoorCards
import Derived.Test.YtilcmkegbmppnaaDoorDX1
import Derived.Test.YtilcmkegbmppnaaDoorRX1
import Derived.ProofKit
import Derived.LaidLaws
import Derived.Lay
import Derived.LaidMore
import Derived.LaidByTextLater
namespace Go.Proofs.YtilcmkegbmppnaaDoor
open Go Go.LK Go.ChangeShapes Go.WideShapes Go.ChangeAt Go.RowKit
set_option maxRecDepth 100000

theorem Tryd.own : ownKnob Tryd.prog.godebug = none := by kernel_rfl
theorem Tryd.laidOut : laidOutB Tryd.prog = true := by kernel_rfl
abbrev laidL : List (String × DataW Unit) := [("math/bits.deBruijn32tab", Rows.laid_math_bits_deBruijn32tab), ("math/bits.deBruijn64tab", Rows.laid_math_bits_deBruijn64tab), ("internal/strconv.uint64pow10", Rows.laid_internal_strconv_uint64pow10), ("strconv.ErrRange", Rows.laid_strconv_ErrRange), ("strconv.ErrSyntax", Rows.laid_strconv_ErrSyntax)]
theorem door_met (os : Os) (args : Array Value) : laidMetH Tryd.prog laidL ((World.laidAll Tryd.prog os laidL).forCall (fun _ _ => 0) ⟨#[], args, []⟩).memory := by
  rw [MakeChecks.laidMetH_plain _ _ _ (by kernel_rfl)]
  exact laidMet_laidAll _ (by kernel_rfl) (by kernel_rfl)
theorem gL2 : Tryd.prog.globalNamed "internal/strconv.uint64pow10" = some 3 := by kernel_rfl
theorem tL2 : (Tryd.prog.globals[3]?).map (·.type) = some 180 := by kernel_rfl
theorem gL3 : Tryd.prog.globalNamed "strconv.ErrRange" = some 2 := by kernel_rfl
theorem tL3 : (Tryd.prog.globals[2]?).map (·.type) = some 102 := by kernel_rfl
theorem gL4 : Tryd.prog.globalNamed "strconv.ErrSyntax" = some 1 := by kernel_rfl
theorem tL4 : (Tryd.prog.globals[1]?).map (·.type) = some 102 := by kernel_rfl
theorem cells_of_var {P : Program} {W : World} {name : String} {g : Nat} {cs : Array Value} (hg : P.globalNamed name = some g) (h : W.var? P name = some cs) : ∃ t p, W.heap[g]? = some (.cells cs t p) := by
  unfold World.var? at h
  rw [hg] at h
  simp only [Option.bind_some] at h
  split at h
  · rename_i c t p hh
    cases h
    exact ⟨t, p, hh⟩
  · cases h
/-- What the condition on the first world gives the walks. -/
theorem of_laid {W : World} (hsh : W.ShapedOpen Tryd.prog) (h : laidMetH Tryd.prog laidL W) : libW.holds W := by
  rw [MakeChecks.laidMetH_plain _ _ _ (by kernel_rfl)] at h
  obtain ⟨ps, ⟨g0, t0, cs0, f0, p0, q0, hg0, ht0, hv0, hd0, ⟨g1, t1, cs1, f1, p1, q1, hg1, ht1, hv1, hd1, ⟨g2, t2, cs2, f2, p2, q2, hg2, ht2, hv2, hd2, ⟨g3, t3, cs3, f3, p3, q3, hg3, ht3, hv3, hd3, ⟨g4, t4, cs4, f4, p4, q4, hg4, ht4, hv4, hd4, _, _⟩, _⟩, _⟩, _⟩, _⟩, _, _⟩ := h
  obtain rfl := Option.some.inj (gL2.symm.trans hg2)
  obtain rfl := Option.some.inj (tL2.symm.trans ht2)
  obtain rfl := Option.some.inj (gL3.symm.trans hg3)
  obtain rfl := Option.some.inj (tL3.symm.trans ht3)
  obtain rfl := Option.some.inj (gL4.symm.trans hg4)
  obtain rfl := Option.some.inj (tL4.symm.trans ht4)
  have herr3 : errV W 2 := by
    obtain ⟨f', u, v, hcs, _, _⟩ := iface_of_trod Tryd.underlying102 hd3
    have hc := World.var?_cell hg3 hv3 0
    rw [Array.eq_one_of_toList hcs] at hc
    exact ⟨.iface u v, by simpa using hc, .inr ⟨u, v, rfl⟩⟩
  have herr4 : errV W 1 := by
    obtain ⟨f', u, v, hcs, _, _⟩ := iface_of_trod Tryd.underlying102 hd4
    have hc := World.var?_cell hg4 hv4 0
    rw [Array.eq_one_of_toList hcs] at hc
    exact ⟨.iface u v, by simpa using hc, .inr ⟨u, v, rfl⟩⟩
  refine ⟨Go.Proofs.cell_of_shapedOpen_int (g := 4) (zero := #[.int .i64 0]) (t := 3) hsh (of_decide_eq_true (by kernel_rfl)) (by kernel_rfl) rfl (by kernel_rfl) (by kernel_rfl) Tryd.underlying3, ?_, herr4, herr3⟩
  obtain ⟨t, p, hh⟩ := cells_of_var hg2 hv2
  refine ⟨t, p, ?_⟩
  have hc := Lib.cells_of_tab (zs := Lib.pow10Tab) (k := .u64) Tryd.underlying180 Tryd.underlying152 (by kernel_rfl) (by kernel_rfl) hd2
  rw [hh, ← hc, Array.toArray_toList]

end Go.Proofs.YtilcmkegbmppnaaDoor
