/-
  What the rows' condition on the package variables gives the walks.
-/
import Derived.Test.YtnhfgnnpbipcnaaGreatDoorLawA
import Derived.Test.YtnhfgnnpbipcnaaGreatDoorRows
import Derived.Test.YtnhfgnnpbipcnaaGreatDoorTie
import Derived.Test.YtnhfgnnpbipcnaaGreatDoorCards
import Derived.Test.YtnhfgnnpbipcnaaGreatDoorSI14
import Derived.ProofKit
import Derived.LaidLaws
import Derived.Lay
import Derived.LaidMore
import Derived.LaidByTextLater
namespace Go.Proofs.YtnhfgnnpbipcnaaGreatDoor
open Go Go.LK Go.ChangeShapes Go.WideShapes Go.ChangeAt Go.RowKit
set_option maxRecDepth 100000

theorem Tryz.own : ownKnob Tryz.prog.godebug = none := by kernel_rfl
theorem Tryz.laidOut : laidOutB Tryz.prog = true := by kernel_rfl
abbrev laidL : List (String × DataW Unit) := [("math/bits.deBruijn32tab", Rows.laid_math_bits_deBruijn32tab), ("math/bits.deBruijn64tab", Rows.laid_math_bits_deBruijn64tab), ("internal/strconv.uint64pow10", Rows.laid_internal_strconv_uint64pow10), ("strconv.ErrRange", Rows.laid_strconv_ErrRange), ("strconv.ErrSyntax", Rows.laid_strconv_ErrSyntax), ("lockkeeper/dec.digits", Rows.laid_lockkeeper_dec_digits), ("lockkeeper/knob.names", Rows.laid_lockkeeper_knob_names)]
theorem door_met (os : Os) (args : Array Value) : laidMetH Tryz.prog laidL ((World.laidAll Tryz.prog os laidL).forCall (fun _ _ => 0) ⟨#[], args, []⟩).memory := by
  rw [MakeChecks.laidMetH_plain _ _ _ (by kernel_rfl)]
  exact laidMet_laidAll _ (by kernel_rfl) (by kernel_rfl)
theorem gL2 : Tryz.prog.globalNamed "internal/strconv.uint64pow10" = some 3 := by kernel_rfl
theorem tL2 : (Tryz.prog.globals[3]?).map (·.type) = some 169 := by kernel_rfl
theorem gL3 : Tryz.prog.globalNamed "strconv.ErrRange" = some 5 := by kernel_rfl
theorem tL3 : (Tryz.prog.globals[5]?).map (·.type) = some 107 := by kernel_rfl
theorem gL4 : Tryz.prog.globalNamed "strconv.ErrSyntax" = some 4 := by kernel_rfl
theorem tL4 : (Tryz.prog.globals[4]?).map (·.type) = some 107 := by kernel_rfl
theorem gL5 : Tryz.prog.globalNamed "lockkeeper/dec.digits" = some 0 := by kernel_rfl
theorem tL5 : (Tryz.prog.globals[0]?).map (·.type) = some 101 := by kernel_rfl
theorem gL6 : Tryz.prog.globalNamed "lockkeeper/knob.names" = some 1 := by kernel_rfl
theorem tL6 : (Tryz.prog.globals[1]?).map (·.type) = some 144 := by kernel_rfl
theorem cells_of_var {P : Program} {W : World} {name : String} {g : Nat} {cs : Array Value} (hg : P.globalNamed name = some g) (h : W.var? P name = some cs) : ∃ t p, W.heap[g]? = some (.cells cs t p) := by
  unfold World.var? at h
  rw [hg] at h
  simp only [Option.bind_some] at h
  split at h
  · rename_i c t p hh
    cases h
    exact ⟨t, p, hh⟩
  · cases h
/-- What the condition on the first world gives the walks. -/
theorem of_laid {W : World} (hsh : W.ShapedOpen Tryz.prog) (h : laidMetH Tryz.prog laidL W) : libW.holds W := by
  rw [MakeChecks.laidMetH_plain _ _ _ (by kernel_rfl)] at h
  obtain ⟨ps, ⟨g0, t0, cs0, f0, p0, q0, hg0, ht0, hv0, hd0, ⟨g1, t1, cs1, f1, p1, q1, hg1, ht1, hv1, hd1, ⟨g2, t2, cs2, f2, p2, q2, hg2, ht2, hv2, hd2, ⟨g3, t3, cs3, f3, p3, q3, hg3, ht3, hv3, hd3, ⟨g4, t4, cs4, f4, p4, q4, hg4, ht4, hv4, hd4, ⟨g5, t5, cs5, f5, p5, q5, hg5, ht5, hv5, hd5, ⟨g6, t6, cs6, f6, p6, q6, hg6, ht6, hv6, hd6, _, _⟩, _⟩, _⟩, _⟩, _⟩, _⟩, _⟩, _, _⟩ := h
  obtain rfl := Option.some.inj (gL2.symm.trans hg2)
  obtain rfl := Option.some.inj (tL2.symm.trans ht2)
  obtain rfl := Option.some.inj (gL3.symm.trans hg3)
  obtain rfl := Option.some.inj (tL3.symm.trans ht3)
  obtain rfl := Option.some.inj (gL4.symm.trans hg4)
  obtain rfl := Option.some.inj (tL4.symm.trans ht4)
  have herr3 : errV W 5 := by
    obtain ⟨f', u, v, hcs, _, _⟩ := iface_of_trod Tryz.underlying107 hd3
    have hc := World.var?_cell hg3 hv3 0
    rw [Array.eq_one_of_toList hcs] at hc
    exact ⟨.iface u v, by simpa using hc, .inr ⟨u, v, rfl⟩⟩
  have herr4 : errV W 4 := by
    obtain ⟨f', u, v, hcs, _, _⟩ := iface_of_trod Tryz.underlying107 hd4
    have hc := World.var?_cell hg4 hv4 0
    rw [Array.eq_one_of_toList hcs] at hc
    exact ⟨.iface u v, by simpa using hc, .inr ⟨u, v, rfl⟩⟩
  refine ⟨Go.Proofs.cell_of_shapedOpen_int (g := 2) (zero := #[.int .i64 0]) (t := 3) hsh (of_decide_eq_true (by kernel_rfl)) (by kernel_rfl) rfl (by kernel_rfl) (by kernel_rfl) Tryz.underlying3, ?_, herr4, herr3⟩
  obtain ⟨t, p, hh⟩ := cells_of_var hg2 hv2
  refine ⟨t, p, ?_⟩
  have hc := Lib.cells_of_tab (zs := Lib.pow10Tab) (k := .u64) Tryz.underlying169 Tryz.underlying22 (by kernel_rfl) (by kernel_rfl) hd2
  rw [hh, ← hc, Array.toArray_toList]
theorem of_lockkeeper_dec_digits {W : World} (hsh : W.ShapedOpen Tryz.prog) (h : laidMetH Tryz.prog laidL W) : (var 0 (Hx.hexDigits.map valU8) 101).holds W := by
  rw [MakeChecks.laidMetH_plain _ _ _ (by kernel_rfl)] at h
  obtain ⟨ps, ⟨g0, t0, cs0, f0, p0, q0, hg0, ht0, hv0, hd0, ⟨g1, t1, cs1, f1, p1, q1, hg1, ht1, hv1, hd1, ⟨g2, t2, cs2, f2, p2, q2, hg2, ht2, hv2, hd2, ⟨g3, t3, cs3, f3, p3, q3, hg3, ht3, hv3, hd3, ⟨g4, t4, cs4, f4, p4, q4, hg4, ht4, hv4, hd4, ⟨g5, t5, cs5, f5, p5, q5, hg5, ht5, hv5, hd5, ⟨g6, t6, cs6, f6, p6, q6, hg6, ht6, hv6, hd6, _, _⟩, _⟩, _⟩, _⟩, _⟩, _⟩, _⟩, _, _⟩ := h
  obtain rfl := Option.some.inj (gL5.symm.trans hg5)
  obtain rfl := Option.some.inj (tL5.symm.trans ht5)
  have hc := Lib.cells_of_tab (zs := Hx.hexDigits.map fun b => (b.toNat : Int)) (k := .u8) Tryz.underlying101 Tryz.underlying5 (by kernel_rfl) (by kernel_rfl) hd5
  obtain ⟨cs, hh, _⟩ := hsh.1 0 (Array.replicate 16 (.int .u8 0)) 101 (of_decide_eq_true (by kernel_rfl)) (by kernel_rfl)
  obtain ⟨t, p, hh2⟩ := cells_of_var hg5 hv5
  rw [hh] at hh2
  have hcs : cs = cs5 := by
    injection hh2 with h1
    injection h1
  show W.heap[0]? = some (.cells (Hx.hexDigits.map valU8).toArray 101 (0, 0))
  rw [hh, hcs, ← Array.toArray_toList (xs := cs5), hc, List.map_map]
  rfl
theorem of_lockkeeper_knob_names {W : World} (hsh : W.ShapedOpen Tryz.prog) (h : laidMetH Tryz.prog laidL W) : (var 1 (Kn.names.map vS) 144).holds W := by
  rw [MakeChecks.laidMetH_plain _ _ _ (by kernel_rfl)] at h
  obtain ⟨ps, ⟨g0, t0, cs0, f0, p0, q0, hg0, ht0, hv0, hd0, ⟨g1, t1, cs1, f1, p1, q1, hg1, ht1, hv1, hd1, ⟨g2, t2, cs2, f2, p2, q2, hg2, ht2, hv2, hd2, ⟨g3, t3, cs3, f3, p3, q3, hg3, ht3, hv3, hd3, ⟨g4, t4, cs4, f4, p4, q4, hg4, ht4, hv4, hd4, ⟨g5, t5, cs5, f5, p5, q5, hg5, ht5, hv5, hd5, ⟨g6, t6, cs6, f6, p6, q6, hg6, ht6, hv6, hd6, _, _⟩, _⟩, _⟩, _⟩, _⟩, _⟩, _⟩, _, _⟩ := h
  obtain rfl := Option.some.inj (gL6.symm.trans hg6)
  obtain rfl := Option.some.inj (tL6.symm.trans ht6)
  have hc := cells_of_strs (zs := Kn.names) Tryz.underlying144 Tryz.underlying9 (by kernel_rfl) (by kernel_rfl) hd6
  obtain ⟨cs, hh, _⟩ := hsh.1 1 (Array.replicate 7 (.string ByteArray.empty)) 144 (of_decide_eq_true (by kernel_rfl)) (by kernel_rfl)
  obtain ⟨t, p, hh2⟩ := cells_of_var hg6 hv6
  rw [hh] at hh2
  have hcs : cs = cs6 := by
    injection hh2 with h1
    injection h1
  show W.heap[1]? = some (.cells (Kn.names.map vS).toArray 144 (0, 0))
  rw [hh, hcs, ← Array.toArray_toList (xs := cs6), hc]
theorem open_T44 {H : Type} {enc : TypeId × Value → H} {W : World} {cs : List Value} (h : Rdb enc Tryz.prog W 44 cs) : ∃ (x0 : Int) (x1 : Int) (x2 : Int) (x3 : Int) (x4 : Int) (x5 : Int) (x6 : Int), cs = [.int .i64 x0, .int .i64 x1, .int .i64 x2, .int .i64 x3, .int .i64 x4, .int .i64 x5, .int .i64 x6] ∧ (Kn.I64s [x0, x1, x2, x3, x4, x5, x6]) := by
  have h0 : Rdb enc Tryz.prog W 3 ((cs.drop 0).take 1) := by
    have h_ : Rdb enc Tryz.prog W 3 ((cs.drop 0).take (Tryz.prog.cellsOf 3)) := by
      exact h.field Tryz.underlying44 0 _ rfl
    rwa [show Tryz.prog.cellsOf 3 = 1 by kernel_rfl] at h_
  obtain ⟨x0, e0, b0⟩ := h0.int Tryz.underlying3
  have h1 : Rdb enc Tryz.prog W 3 ((cs.drop 1).take 1) := by
    have h_ : Rdb enc Tryz.prog W 3 ((cs.drop 1).take (Tryz.prog.cellsOf 3)) := by
      exact h.field Tryz.underlying44 1 _ rfl
    rwa [show Tryz.prog.cellsOf 3 = 1 by kernel_rfl] at h_
  obtain ⟨x1, e1, b1⟩ := h1.int Tryz.underlying3
  have h2 : Rdb enc Tryz.prog W 3 ((cs.drop 2).take 1) := by
    have h_ : Rdb enc Tryz.prog W 3 ((cs.drop 2).take (Tryz.prog.cellsOf 3)) := by
      exact h.field Tryz.underlying44 2 _ rfl
    rwa [show Tryz.prog.cellsOf 3 = 1 by kernel_rfl] at h_
  obtain ⟨x2, e2, b2⟩ := h2.int Tryz.underlying3
  have h3 : Rdb enc Tryz.prog W 3 ((cs.drop 3).take 1) := by
    have h_ : Rdb enc Tryz.prog W 3 ((cs.drop 3).take (Tryz.prog.cellsOf 3)) := by
      exact h.field Tryz.underlying44 3 _ rfl
    rwa [show Tryz.prog.cellsOf 3 = 1 by kernel_rfl] at h_
  obtain ⟨x3, e3, b3⟩ := h3.int Tryz.underlying3
  have h4 : Rdb enc Tryz.prog W 3 ((cs.drop 4).take 1) := by
    have h_ : Rdb enc Tryz.prog W 3 ((cs.drop 4).take (Tryz.prog.cellsOf 3)) := by
      exact h.field Tryz.underlying44 4 _ rfl
    rwa [show Tryz.prog.cellsOf 3 = 1 by kernel_rfl] at h_
  obtain ⟨x4, e4, b4⟩ := h4.int Tryz.underlying3
  have h5 : Rdb enc Tryz.prog W 3 ((cs.drop 5).take 1) := by
    have h_ : Rdb enc Tryz.prog W 3 ((cs.drop 5).take (Tryz.prog.cellsOf 3)) := by
      exact h.field Tryz.underlying44 5 _ rfl
    rwa [show Tryz.prog.cellsOf 3 = 1 by kernel_rfl] at h_
  obtain ⟨x5, e5, b5⟩ := h5.int Tryz.underlying3
  have h6 : Rdb enc Tryz.prog W 3 ((cs.drop 6).take 1) := by
    have h_ : Rdb enc Tryz.prog W 3 ((cs.drop 6).take (Tryz.prog.cellsOf 3)) := by
      exact h.field Tryz.underlying44 6 _ rfl
    rwa [show Tryz.prog.cellsOf 3 = 1 by kernel_rfl] at h_
  obtain ⟨x6, e6, b6⟩ := h6.int Tryz.underlying3
  have hI : Kn.I64s [x0, x1, x2, x3, x4, x5, x6] := by
    intro x hx
    simp only [List.mem_cons, List.not_mem_nil, or_false] at hx
    rcases hx with rfl | rfl | rfl | rfl | rfl | rfl | rfl <;> assumption
  have hc : cs = [.int .i64 x0, .int .i64 x1, .int .i64 x2, .int .i64 x3, .int .i64 x4, .int .i64 x5, .int .i64 x6] := (List.drop_zero (l := cs)).symm.trans (by rw [cut_next (m := 1) e0 rfl, cut_next (m := 2) e1 rfl, cut_next (m := 3) e2 rfl, cut_next (m := 4) e3 rfl, cut_next (m := 5) e4 rfl, cut_next (m := 6) e5 rfl, cut_next (m := 7) e6 rfl, cut_end (m := 7) (by rw [h.len Tryz.underlying44]; kernel_rfl)]; rfl)
  exact ⟨x0, x1, x2, x3, x4, x5, x6, hc, hI⟩
theorem open_T50 {H : Type} {enc : TypeId × Value → H} {W : World} {cs : List Value} (h : Rdb enc Tryz.prog W 50 cs) : ∃ (x0 : Int) (x1 : Int) (x2 : Int) (x3 : Int), cs = [.int .i64 x0, .int .i64 x1, .int .i64 x2, .int .i64 x3] ∧ (Kn.I64s [x0, x1, x2, x3]) := by
  have h0 : Rdb enc Tryz.prog W 3 ((cs.drop 0).take 1) := by
    have h_ : Rdb enc Tryz.prog W 3 ((cs.drop 0).take (Tryz.prog.cellsOf 3)) := by
      exact h.field Tryz.underlying50 0 _ rfl
    rwa [show Tryz.prog.cellsOf 3 = 1 by kernel_rfl] at h_
  obtain ⟨x0, e0, b0⟩ := h0.int Tryz.underlying3
  have h1 : Rdb enc Tryz.prog W 3 ((cs.drop 1).take 1) := by
    have h_ : Rdb enc Tryz.prog W 3 ((cs.drop 1).take (Tryz.prog.cellsOf 3)) := by
      exact h.field Tryz.underlying50 1 _ rfl
    rwa [show Tryz.prog.cellsOf 3 = 1 by kernel_rfl] at h_
  obtain ⟨x1, e1, b1⟩ := h1.int Tryz.underlying3
  have h2 : Rdb enc Tryz.prog W 3 ((cs.drop 2).take 1) := by
    have h_ : Rdb enc Tryz.prog W 3 ((cs.drop 2).take (Tryz.prog.cellsOf 3)) := by
      exact h.field Tryz.underlying50 2 _ rfl
    rwa [show Tryz.prog.cellsOf 3 = 1 by kernel_rfl] at h_
  obtain ⟨x2, e2, b2⟩ := h2.int Tryz.underlying3
  have h3 : Rdb enc Tryz.prog W 3 ((cs.drop 3).take 1) := by
    have h_ : Rdb enc Tryz.prog W 3 ((cs.drop 3).take (Tryz.prog.cellsOf 3)) := by
      exact h.field Tryz.underlying50 3 _ rfl
    rwa [show Tryz.prog.cellsOf 3 = 1 by kernel_rfl] at h_
  obtain ⟨x3, e3, b3⟩ := h3.int Tryz.underlying3
  have hI : Kn.I64s [x0, x1, x2, x3] := by
    intro x hx
    simp only [List.mem_cons, List.not_mem_nil, or_false] at hx
    rcases hx with rfl | rfl | rfl | rfl <;> assumption
  have hc : cs = [.int .i64 x0, .int .i64 x1, .int .i64 x2, .int .i64 x3] := (List.drop_zero (l := cs)).symm.trans (by rw [cut_next (m := 1) e0 rfl, cut_next (m := 2) e1 rfl, cut_next (m := 3) e2 rfl, cut_next (m := 4) e3 rfl, cut_end (m := 4) (by rw [h.len Tryz.underlying50]; kernel_rfl)]; rfl)
  exact ⟨x0, x1, x2, x3, hc, hI⟩
theorem open_T47 {H : Type} {enc : TypeId × Value → H} {W : World} {cs : List Value} (h : Rdb enc Tryz.prog W 47 cs) : ∃ (x0 : Int) (x1 : Int) (x2 : Int) (x3 : Int) (x4 : Int) (x5 : Int) (x6 : Int) (x7 : Int) (x8 : Int) (x9 : Int) (x10 : Int) (x11 : Int) (x12 : Int) (v13 : Value) (l13 : List Cl), cs = [.int .i64 x0, .int .i64 x1, .int .i64 x2, .int .i64 x3, .int .i64 x4, .int .i64 x5, .int .i64 x6, .int .i64 x7, .int .i64 x8, .int .i64 x9, .int .i64 x10, .int .i64 x11, .int .i64 x12, v13] ∧ (Kn.I64s [x0, x1, x2, x3, x4, x5, x6, x7, x8, x9, x10, x11, x12]) ∧ (Elt W v13 4 (l13.map Cl.cells)) ∧ (∀ a ∈ l13, (Cf.ClI) a) := by
  have h0 : Rdb enc Tryz.prog W 3 ((cs.drop 0).take 1) := by
    have h_ : Rdb enc Tryz.prog W 3 ((cs.drop 0).take (Tryz.prog.cellsOf 3)) := by
      exact h.field Tryz.underlying47 0 _ rfl
    rwa [show Tryz.prog.cellsOf 3 = 1 by kernel_rfl] at h_
  obtain ⟨x0, e0, b0⟩ := h0.int Tryz.underlying3
  have h1 : Rdb enc Tryz.prog W 3 ((cs.drop 1).take 1) := by
    have h_ : Rdb enc Tryz.prog W 3 ((cs.drop 1).take (Tryz.prog.cellsOf 3)) := by
      exact h.field Tryz.underlying47 1 _ rfl
    rwa [show Tryz.prog.cellsOf 3 = 1 by kernel_rfl] at h_
  obtain ⟨x1, e1, b1⟩ := h1.int Tryz.underlying3
  have h2 : Rdb enc Tryz.prog W 3 ((cs.drop 2).take 1) := by
    have h_ : Rdb enc Tryz.prog W 3 ((cs.drop 2).take (Tryz.prog.cellsOf 3)) := by
      exact h.field Tryz.underlying47 2 _ rfl
    rwa [show Tryz.prog.cellsOf 3 = 1 by kernel_rfl] at h_
  obtain ⟨x2, e2, b2⟩ := h2.int Tryz.underlying3
  have h3 : Rdb enc Tryz.prog W 3 ((cs.drop 3).take 1) := by
    have h_ : Rdb enc Tryz.prog W 3 ((cs.drop 3).take (Tryz.prog.cellsOf 3)) := by
      exact h.field Tryz.underlying47 3 _ rfl
    rwa [show Tryz.prog.cellsOf 3 = 1 by kernel_rfl] at h_
  obtain ⟨x3, e3, b3⟩ := h3.int Tryz.underlying3
  have h4 : Rdb enc Tryz.prog W 3 ((cs.drop 4).take 1) := by
    have h_ : Rdb enc Tryz.prog W 3 ((cs.drop 4).take (Tryz.prog.cellsOf 3)) := by
      exact h.field Tryz.underlying47 4 _ rfl
    rwa [show Tryz.prog.cellsOf 3 = 1 by kernel_rfl] at h_
  obtain ⟨x4, e4, b4⟩ := h4.int Tryz.underlying3
  have h5 : Rdb enc Tryz.prog W 3 ((cs.drop 5).take 1) := by
    have h_ : Rdb enc Tryz.prog W 3 ((cs.drop 5).take (Tryz.prog.cellsOf 3)) := by
      exact h.field Tryz.underlying47 5 _ rfl
    rwa [show Tryz.prog.cellsOf 3 = 1 by kernel_rfl] at h_
  obtain ⟨x5, e5, b5⟩ := h5.int Tryz.underlying3
  have h6 : Rdb enc Tryz.prog W 44 ((cs.drop 6).take 7) := by
    have h_ : Rdb enc Tryz.prog W 44 ((cs.drop 6).take (Tryz.prog.cellsOf 44)) := by
      exact h.field Tryz.underlying47 6 _ rfl
    rwa [show Tryz.prog.cellsOf 44 = 7 by kernel_rfl] at h_
  obtain ⟨x6, x7, x8, x9, x10, x11, x12, e6, hI_6⟩ := open_T44 h6
  have b6 : Dc.I64 x6 := hI_6 _ (by simp)
  have b7 : Dc.I64 x7 := hI_6 _ (by simp)
  have b8 : Dc.I64 x8 := hI_6 _ (by simp)
  have b9 : Dc.I64 x9 := hI_6 _ (by simp)
  have b10 : Dc.I64 x10 := hI_6 _ (by simp)
  have b11 : Dc.I64 x11 := hI_6 _ (by simp)
  have b12 : Dc.I64 x12 := hI_6 _ (by simp)
  have h7 : Rdb enc Tryz.prog W 45 ((cs.drop 13).take 1) := by
    have h_ : Rdb enc Tryz.prog W 45 ((cs.drop 13).take (Tryz.prog.cellsOf 45)) := by
      exact h.field Tryz.underlying47 7 _ rfl
    rwa [show Tryz.prog.cellsOf 45 = 1 by kernel_rfl] at h_
  obtain ⟨v13, m13, e7, E13, r13⟩ := h7.slice 4 (by decide) Tryz.underlying45 (by kernel_rfl)
  obtain ⟨l13, rfl, q13⟩ := lift_map (f := Cl.cells) (Q := Cf.ClI) fun b hb => (by obtain ⟨x0, x1, x2, x3, e_, FhI⟩ := open_T50 (r13 b hb); exact ⟨⟨x0, x1, x2, x3⟩, e_, FhI⟩)
  have hI : Kn.I64s [x0, x1, x2, x3, x4, x5, x6, x7, x8, x9, x10, x11, x12] := by
    intro x hx
    simp only [List.mem_cons, List.not_mem_nil, or_false] at hx
    rcases hx with rfl | rfl | rfl | rfl | rfl | rfl | rfl | rfl | rfl | rfl | rfl | rfl | rfl <;> assumption
  have hc : cs = [.int .i64 x0, .int .i64 x1, .int .i64 x2, .int .i64 x3, .int .i64 x4, .int .i64 x5, .int .i64 x6, .int .i64 x7, .int .i64 x8, .int .i64 x9, .int .i64 x10, .int .i64 x11, .int .i64 x12, v13] := (List.drop_zero (l := cs)).symm.trans (by rw [cut_next (m := 1) e0 rfl, cut_next (m := 2) e1 rfl, cut_next (m := 3) e2 rfl, cut_next (m := 4) e3 rfl, cut_next (m := 5) e4 rfl, cut_next (m := 6) e5 rfl, cut_next (m := 13) e6 rfl, cut_next (m := 14) e7 rfl, cut_end (m := 14) (by rw [h.len Tryz.underlying47]; kernel_rfl)]; rfl)
  exact ⟨x0, x1, x2, x3, x4, x5, x6, x7, x8, x9, x10, x11, x12, v13, l13, hc, hI, E13, q13⟩
theorem open_T25 {H : Type} {enc : TypeId × Value → H} {W : World} {cs : List Value} (h : Rdb enc Tryz.prog W 25 cs) : ∃ (x0 : Int) (x1 : Int) (x2 : Int) (x3 : Nat) (v4 : Value) (l4 : List Sg), cs = [.int .i64 x0, .int .i64 x1, .int .i64 x2, .int .u64 (x3 : Int), v4] ∧ (Kn.I64s [x0, x1, x2]) ∧ (x3 < 18446744073709551616) ∧ (Elt W v4 14 (l4.map Sg.cells)) ∧ (∀ a ∈ l4, (fun s => (Kn.I64s s.nums ∧ ∀ c ∈ s.cl, Cf.ClI c) ∧ Elt W s.cv 4 (s.cl.map Cl.cells)) a) := by
  have h0 : Rdb enc Tryz.prog W 3 ((cs.drop 0).take 1) := by
    have h_ : Rdb enc Tryz.prog W 3 ((cs.drop 0).take (Tryz.prog.cellsOf 3)) := by
      exact h.field Tryz.underlying25 0 _ rfl
    rwa [show Tryz.prog.cellsOf 3 = 1 by kernel_rfl] at h_
  obtain ⟨x0, e0, b0⟩ := h0.int Tryz.underlying3
  have h1 : Rdb enc Tryz.prog W 3 ((cs.drop 1).take 1) := by
    have h_ : Rdb enc Tryz.prog W 3 ((cs.drop 1).take (Tryz.prog.cellsOf 3)) := by
      exact h.field Tryz.underlying25 1 _ rfl
    rwa [show Tryz.prog.cellsOf 3 = 1 by kernel_rfl] at h_
  obtain ⟨x1, e1, b1⟩ := h1.int Tryz.underlying3
  have h2 : Rdb enc Tryz.prog W 3 ((cs.drop 2).take 1) := by
    have h_ : Rdb enc Tryz.prog W 3 ((cs.drop 2).take (Tryz.prog.cellsOf 3)) := by
      exact h.field Tryz.underlying25 2 _ rfl
    rwa [show Tryz.prog.cellsOf 3 = 1 by kernel_rfl] at h_
  obtain ⟨x2, e2, b2⟩ := h2.int Tryz.underlying3
  have h3 : Rdb enc Tryz.prog W 22 ((cs.drop 3).take 1) := by
    have h_ : Rdb enc Tryz.prog W 22 ((cs.drop 3).take (Tryz.prog.cellsOf 22)) := by
      exact h.field Tryz.underlying25 3 _ rfl
    rwa [show Tryz.prog.cellsOf 22 = 1 by kernel_rfl] at h_
  obtain ⟨x3, e3, b3⟩ := h3.u64 Tryz.underlying22
  have h4 : Rdb enc Tryz.prog W 23 ((cs.drop 4).take 1) := by
    have h_ : Rdb enc Tryz.prog W 23 ((cs.drop 4).take (Tryz.prog.cellsOf 23)) := by
      exact h.field Tryz.underlying25 4 _ rfl
    rwa [show Tryz.prog.cellsOf 23 = 1 by kernel_rfl] at h_
  obtain ⟨v4, m4, e4, E4, r4⟩ := h4.slice 14 (by decide) Tryz.underlying23 (by kernel_rfl)
  obtain ⟨l4, rfl, q4⟩ := lift_map (f := Sg.cells) (Q := fun s => (Kn.I64s s.nums ∧ ∀ c ∈ s.cl, Cf.ClI c) ∧ Elt W s.cv 4 (s.cl.map Cl.cells)) fun b hb => (by obtain ⟨x0, x1, x2, x3, x4, x5, x6, x7, x8, x9, x10, x11, x12, v13, l13, e_, FhI, FE13, Fq13⟩ := open_T47 (r4 b hb); exact ⟨⟨x0, x1, x2, x3, x4, x5, x6, x7, x8, x9, x10, x11, x12, v13, l13, elt_one FE13⟩, e_, ⟨⟨FhI, Fq13⟩, FE13⟩⟩)
  have hI : Kn.I64s [x0, x1, x2] := by
    intro x hx
    simp only [List.mem_cons, List.not_mem_nil, or_false] at hx
    rcases hx with rfl | rfl | rfl <;> assumption
  have hc : cs = [.int .i64 x0, .int .i64 x1, .int .i64 x2, .int .u64 (x3 : Int), v4] := (List.drop_zero (l := cs)).symm.trans (by rw [cut_next (m := 1) e0 rfl, cut_next (m := 2) e1 rfl, cut_next (m := 3) e2 rfl, cut_next (m := 4) e3 rfl, cut_next (m := 5) e4 rfl, cut_end (m := 5) (by rw [h.len Tryz.underlying25]; kernel_rfl)]; rfl)
  exact ⟨x0, x1, x2, x3, v4, l4, hc, hI, b3, E4, q4⟩

end Go.Proofs.YtnhfgnnpbipcnaaGreatDoor
