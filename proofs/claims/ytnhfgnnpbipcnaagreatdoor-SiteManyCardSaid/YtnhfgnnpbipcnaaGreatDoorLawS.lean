/-
  What the rows' condition on the package variables gives the walks.
-/
import Derived.Test.YtnhfgnnpbipcnaaGreatDoorLawA
import Derived.Test.YtnhfgnnpbipcnaaGreatDoorRows
import Derived.Test.YtnhfgnnpbipcnaaGreatDoorTie
import Derived.Test.YtnhfgnnpbipcnaaGreatDoorCards
import Derived.Test.YtnhfgnnpbipcnaaGreatDoorSI14
import Derived.ProofKit
import Derived.LaidLaws
import Derived.Lay
import Derived.LaidMore
import Derived.LaidByTextLater
namespace Go.Proofs.YtnhfgnnpbipcnaaGreatDoor
open Go Go.LK Go.ChangeShapes Go.WideShapes Go.ChangeAt Go.RowKit
set_option maxRecDepth 100000

theorem Tryz.own : ownKnob Tryz.prog.godebug = none := by kernel_rfl
theorem Tryz.laidOut : laidOutB Tryz.prog = true := by kernel_rfl
abbrev laidL : List (String × DataW Unit) := [("math/bits.deBruijn32tab", Rows.laid_math_bits_deBruijn32tab), ("math/bits.deBruijn64tab", Rows.laid_math_bits_deBruijn64tab), ("internal/strconv.uint64pow10", Rows.laid_internal_strconv_uint64pow10), ("strconv.ErrRange", Rows.laid_strconv_ErrRange), ("strconv.ErrSyntax", Rows.laid_strconv_ErrSyntax), ("lockkeeper/dec.digits", Rows.laid_lockkeeper_dec_digits), ("lockkeeper/knob.names", Rows.laid_lockkeeper_knob_names)]
theorem door_met (os : Os) (args : Array Value) : laidMetH Tryz.prog laidL ((World.laidAll Tryz.prog os laidL).forCall (fun _ _ => 0) ⟨#[], args, []⟩).memory := by
  rw [MakeChecks.laidMetH_plain _ _ _ (by kernel_rfl)]
  exact laidMet_laidAll _ (by kernel_rfl) (by kernel_rfl)
theorem gL2 : Tryz.prog.globalNamed "internal/strconv.uint64pow10" = some 3 := by kernel_rfl
theorem tL2 : (Tryz.prog.globals[3]?).map (·.type) = some 169 := by kernel_rfl
theorem gL3 : Tryz.prog.globalNamed "strconv.ErrRange" = some 5 := by kernel_rfl
theorem tL3 : (Tryz.prog.globals[5]?).map (·.type) = some 107 := by kernel_rfl
theorem gL4 : Tryz.prog.globalNamed "strconv.ErrSyntax" = some 4 := by kernel_rfl
theorem tL4 : (Tryz.prog.globals[4]?).map (·.type) = some 107 := by kernel_rfl
theorem gL5 : Tryz.prog.globalNamed "lockkeeper/dec.digits" = some 0 := by kernel_rfl
theorem tL5 : (Tryz.prog.globals[0]?).map (·.type) = some 101 := by kernel_rfl
theorem gL6 : Tryz.prog.globalNamed "lockkeeper/knob.names" = some 1 := by kernel_rfl
theorem tL6 : (Tryz.prog.globals[1]?).map (·.type) = some 144 := by kernel_rfl
theorem cells_of_var {P : Program} {W : World} {name : String} {g : Nat} {cs : Array Value} (hg : P.globalNamed name = some g) (h : W.var? P name = some cs) : ∃ t p, W.heap[g]? = some (.cells cs t p) := by
  unfold World.var? at h
  rw [hg] at h
  simp only [Option.bind_some] at h
  split at h
  · rename_i c t p hh
    cases h
    exact ⟨t, p, hh⟩
  · cases h
/-- What the condition on the first world gives the walks. -/
theorem of_laid {W : World} (hsh : W.ShapedOpen Tryz.prog) (h : laidMetH Tryz.prog laidL W) : libW.holds W := by
  rw [MakeChecks.laidMetH_plain _ _ _ (by kernel_rfl)] at h
  obtain ⟨ps, ⟨g0, t0, cs0, f0, p0, q0, hg0, ht0, hv0, hd0, ⟨g1, t1, cs1, f1, p1, q1, hg1, ht1, hv1, hd1, ⟨g2, t2, cs2, f2, p2, q2, hg2, ht2, hv2, hd2, ⟨g3, t3, cs3, f3, p3, q3, hg3, ht3, hv3, hd3, ⟨g4, t4, cs4, f4, p4, q4, hg4, ht4, hv4, hd4, ⟨g5, t5, cs5, f5, p5, q5, hg5, ht5, hv5, hd5, ⟨g6, t6, cs6, f6, p6, q6, hg6, ht6, hv6, hd6, _, _⟩, _⟩, _⟩, _⟩, _⟩, _⟩, _⟩, _, _⟩ := h
  obtain rfl := Option.some.inj (gL2.symm.trans hg2)
  obtain rfl := Option.some.inj (tL2.symm.trans ht2)
  obtain rfl := Option.some.inj (gL3.symm.trans hg3)
  obtain rfl := Option.some.inj (tL3.symm.trans ht3)
  obtain rfl := Option.some.inj (gL4.symm.trans hg4)
  obtain rfl := Option.some.inj (tL4.symm.trans ht4)
  have herr3 : errV W 5 := by
    obtain ⟨f', u, v, hcs, _, _⟩ := iface_of_trod Tryz.underlying107 hd3
    have hc := World.var?_cell hg3 hv3 0
    rw [Array.eq_one_of_toList hcs] at hc
    exact ⟨.iface u v, by simpa using hc, .inr ⟨u, v, rfl⟩⟩
  have herr4 : errV W 4 := by
    obtain ⟨f', u, v, hcs, _, _⟩ := iface_of_trod Tryz.underlying107 hd4
    have hc := World.var?_cell hg4 hv4 0
    rw [Array.eq_one_of_toList hcs] at hc
    exact ⟨.iface u v, by simpa using hc, .inr ⟨u, v, rfl⟩⟩
  refine ⟨Go.Proofs.cell_of_shapedOpen_int (g := 2) (zero := #[.int .i64 0]) (t := 3) hsh (of_decide_eq_true (by kernel_rfl)) (by kernel_rfl) rfl (by kernel_rfl) (by kernel_rfl) Tryz.underlying3, ?_, herr4, herr3⟩
  obtain ⟨t, p, hh⟩ := cells_of_var hg2 hv2
  refine ⟨t, p, ?_⟩
  have hc := Lib.cells_of_tab (zs := Lib.pow10Tab) (k := .u64) Tryz.underlying169 Tryz.underlying22 (by kernel_rfl) (by kernel_rfl) hd2
  rw [hh, ← hc, Array.toArray_toList]
theorem of_lockkeeper_dec_digits {W : World} (hsh : W.ShapedOpen Tryz.prog) (h : laidMetH Tryz.prog laidL W) : (var 0 (Hx.hexDigits.map valU8) 101).holds W := by
  rw [MakeChecks.laidMetH_plain _ _ _ (by kernel_rfl)] at h
  obtain ⟨ps, ⟨g0, t0, cs0, f0, p0, q0, hg0, ht0, hv0, hd0, ⟨g1, t1, cs1, f1, p1, q1, hg1, ht1, hv1, hd1, ⟨g2, t2, cs2, f2, p2, q2, hg2, ht2, hv2, hd2, ⟨g3, t3, cs3, f3, p3, q3, hg3, ht3, hv3, hd3, ⟨g4, t4, cs4, f4, p4, q4, hg4, ht4, hv4, hd4, ⟨g5, t5, cs5, f5, p5, q5, hg5, ht5, hv5, hd5, ⟨g6, t6, cs6, f6, p6, q6, hg6, ht6, hv6, hd6, _, _⟩, _⟩, _⟩, _⟩, _⟩, _⟩, _⟩, _, _⟩ := h
  obtain rfl := Option.some.inj (gL5.symm.trans hg5)
  obtain rfl := Option.some.inj (tL5.symm.trans ht5)
  have hc := Lib.cells_of_tab (zs := Hx.hexDigits.map fun b => (b.toNat : Int)) (k := .u8) Tryz.underlying101 Tryz.underlying5 (by kernel_rfl) (by kernel_rfl) hd5
  obtain ⟨cs, hh, _⟩ := hsh.1 0 (Array.replicate 16 (.int .u8 0)) 101 (of_decide_eq_true (by kernel_rfl)) (by kernel_rfl)
  obtain ⟨t, p, hh2⟩ := cells_of_var hg5 hv5
  rw [hh] at hh2
  have hcs : cs = cs5 := by
    injection hh2 with h1
    injection h1
  show W.heap[0]? = some (.cells (Hx.hexDigits.map valU8).toArray 101 (0, 0))
  rw [hh, hcs, ← Array.toArray_toList (xs := cs5), hc, List.map_map]
  rfl
theorem of_lockkeeper_knob_names {W : World} (hsh : W.ShapedOpen Tryz.prog) (h : laidMetH Tryz.prog laidL W) : (var 1 (Kn.names.map vS) 144).holds W := by
  rw [MakeChecks.laidMetH_plain _ _ _ (by kernel_rfl)] at h
  obtain ⟨ps, ⟨g0, t0, cs0, f0, p0, q0, hg0, ht0, hv0, hd0, ⟨g1, t1, cs1, f1, p1, q1, hg1, ht1, hv1, hd1, ⟨g2, t2, cs2, f2, p2, q2, hg2, ht2, hv2, hd2, ⟨g3, t3, cs3, f3, p3, q3, hg3, ht3, hv3, hd3, ⟨g4, t4, cs4, f4, p4, q4, hg4, ht4, hv4, hd4, ⟨g5, t5, cs5, f5, p5, q5, hg5, ht5, hv5, hd5, ⟨g6, t6, cs6, f6, p6, q6, hg6, ht6, hv6, hd6, _, _⟩, _⟩, _⟩, _⟩, _⟩, _⟩, _⟩, _, _⟩ := h
  obtain rfl := Option.some.inj (gL6.symm.trans hg6)
  obtain rfl := Option.some.inj (tL6.symm.trans ht6)
  have hc := cells_of_strs (zs := Kn.names) Tryz.underlying144 Tryz.underlying9 (by kernel_rfl) (by kernel_rfl) hd6
  obtain ⟨cs, hh, _⟩ := hsh.1 1 (Array.replicate 7 (.string ByteArray.empty)) 144 (of_decide_eq_true (by kernel_rfl)) (by kernel_rfl)
  obtain ⟨t, p, hh2⟩ := cells_of_var hg6 hv6
  rw [hh] at hh2
  have hcs : cs = cs6 := by
    injection hh2 with h1
    injection h1
  show W.heap[1]? = some (.cells (Kn.names.map vS).toArray 144 (0, 0))
  rw [hh, hcs, ← Array.toArray_toList (xs := cs6), hc]

end Go.Proofs.YtnhfgnnpbipcnaaGreatDoor
