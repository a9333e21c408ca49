/-
  What the rows' condition on the package variables gives the walks.
-/
import Derived.Test.YtilcmkegbmppnaaDoorLawA
import Derived.Test.YtilcmkegbmppnaaDoorRows
import Derived.Test.YtilcmkegbmppnaaDoorTie
import Derived.Test.YtilcmkegbmppnaaDoorCards
import Derived.Test.YtilcmkegbmppnaaDoorCX6
import Derived.Test.YtilcmkegbmppnaaDoorDX1
import Derived.ProofKit
import Derived.LaidLaws
import Derived.Lay
import Derived.LaidMore
import Derived.LaidByTextLater
namespace Go.Proofs.YtilcmkegbmppnaaDoor
open Go Go.LK Go.ChangeShapes Go.WideShapes Go.ChangeAt Go.RowKit
set_option maxRecDepth 100000

theorem Tryd.own : ownKnob Tryd.prog.godebug = none := by kernel_rfl
theorem Tryd.laidOut : laidOutB Tryd.prog = true := by kernel_rfl
abbrev laidL : List (String × DataW Unit) := [("math/bits.deBruijn32tab", Rows.laid_math_bits_deBruijn32tab), ("math/bits.deBruijn64tab", Rows.laid_math_bits_deBruijn64tab), ("internal/strconv.uint64pow10", Rows.laid_internal_strconv_uint64pow10), ("strconv.ErrRange", Rows.laid_strconv_ErrRange), ("strconv.ErrSyntax", Rows.laid_strconv_ErrSyntax), ("lockkeeper/knob.names", Rows.laid_lockkeeper_knob_names)]
theorem door_met (os : Os) (args : Array Value) : laidMetH Tryd.prog laidL ((World.laidAll Tryd.prog os laidL).forCall (fun _ _ => 0) ⟨#[], args, []⟩).memory := by
  rw [MakeChecks.laidMetH_plain _ _ _ (by kernel_rfl)]
  exact laidMet_laidAll _ (by kernel_rfl) (by kernel_rfl)
theorem gL0 : Tryd.prog.globalNamed "math/bits.deBruijn32tab" = some 5 := by kernel_rfl
theorem tL0 : (Tryd.prog.globals[5]?).map (·.type) = some 186 := by kernel_rfl
theorem gL1 : Tryd.prog.globalNamed "math/bits.deBruijn64tab" = some 6 := by kernel_rfl
theorem tL1 : (Tryd.prog.globals[6]?).map (·.type) = some 187 := by kernel_rfl
theorem gL2 : Tryd.prog.globalNamed "internal/strconv.uint64pow10" = some 3 := by kernel_rfl
theorem tL2 : (Tryd.prog.globals[3]?).map (·.type) = some 180 := by kernel_rfl
theorem gL3 : Tryd.prog.globalNamed "strconv.ErrRange" = some 2 := by kernel_rfl
theorem tL3 : (Tryd.prog.globals[2]?).map (·.type) = some 102 := by kernel_rfl
theorem gL4 : Tryd.prog.globalNamed "strconv.ErrSyntax" = some 1 := by kernel_rfl
theorem tL4 : (Tryd.prog.globals[1]?).map (·.type) = some 102 := by kernel_rfl
theorem gL5 : Tryd.prog.globalNamed "lockkeeper/knob.names" = some 0 := by kernel_rfl
theorem tL5 : (Tryd.prog.globals[0]?).map (·.type) = some 130 := by kernel_rfl
theorem cells_of_var {P : Program} {W : World} {name : String} {g : Nat} {cs : Array Value} (hg : P.globalNamed name = some g) (h : W.var? P name = some cs) : ∃ t p, W.heap[g]? = some (.cells cs t p) := by
  unfold World.var? at h
  rw [hg] at h
  simp only [Option.bind_some] at h
  split at h
  · rename_i c t p hh
    cases h
    exact ⟨t, p, hh⟩
  · cases h
/-- What the condition on the first world gives the walks. -/
theorem of_laid {W : World} (hsh : W.ShapedOpen Tryd.prog) (h : laidMetH Tryd.prog laidL W) : libW.holds W := by
  rw [MakeChecks.laidMetH_plain _ _ _ (by kernel_rfl)] at h
  obtain ⟨ps, ⟨g0, t0, cs0, f0, p0, q0, hg0, ht0, hv0, hd0, ⟨g1, t1, cs1, f1, p1, q1, hg1, ht1, hv1, hd1, ⟨g2, t2, cs2, f2, p2, q2, hg2, ht2, hv2, hd2, ⟨g3, t3, cs3, f3, p3, q3, hg3, ht3, hv3, hd3, ⟨g4, t4, cs4, f4, p4, q4, hg4, ht4, hv4, hd4, ⟨g5, t5, cs5, f5, p5, q5, hg5, ht5, hv5, hd5, _, _⟩, _⟩, _⟩, _⟩, _⟩, _⟩, _, _⟩ := h
  obtain rfl := Option.some.inj (gL2.symm.trans hg2)
  obtain rfl := Option.some.inj (tL2.symm.trans ht2)
  obtain rfl := Option.some.inj (gL3.symm.trans hg3)
  obtain rfl := Option.some.inj (tL3.symm.trans ht3)
  obtain rfl := Option.some.inj (gL4.symm.trans hg4)
  obtain rfl := Option.some.inj (tL4.symm.trans ht4)
  have herr3 : errV W 2 := by
    obtain ⟨f', u, v, hcs, _, _⟩ := iface_of_trod Tryd.underlying102 hd3
    have hc := World.var?_cell hg3 hv3 0
    rw [Array.eq_one_of_toList hcs] at hc
    exact ⟨.iface u v, by simpa using hc, .inr ⟨u, v, rfl⟩⟩
  have herr4 : errV W 1 := by
    obtain ⟨f', u, v, hcs, _, _⟩ := iface_of_trod Tryd.underlying102 hd4
    have hc := World.var?_cell hg4 hv4 0
    rw [Array.eq_one_of_toList hcs] at hc
    exact ⟨.iface u v, by simpa using hc, .inr ⟨u, v, rfl⟩⟩
  refine ⟨Go.Proofs.cell_of_shapedOpen_int (g := 4) (zero := #[.int .i64 0]) (t := 3) hsh (of_decide_eq_true (by kernel_rfl)) (by kernel_rfl) rfl (by kernel_rfl) (by kernel_rfl) Tryd.underlying3, ?_, herr4, herr3⟩
  obtain ⟨t, p, hh⟩ := cells_of_var hg2 hv2
  refine ⟨t, p, ?_⟩
  have hc := Lib.cells_of_tab (zs := Lib.pow10Tab) (k := .u64) Tryd.underlying180 Tryd.underlying152 (by kernel_rfl) (by kernel_rfl) hd2
  rw [hh, ← hc, Array.toArray_toList]
theorem of_lockkeeper_knob_names {W : World} (hsh : W.ShapedOpen Tryd.prog) (h : laidMetH Tryd.prog laidL W) : (var 0 (Kn.names.map vS) 130).holds W := by
  rw [MakeChecks.laidMetH_plain _ _ _ (by kernel_rfl)] at h
  obtain ⟨ps, ⟨g0, t0, cs0, f0, p0, q0, hg0, ht0, hv0, hd0, ⟨g1, t1, cs1, f1, p1, q1, hg1, ht1, hv1, hd1, ⟨g2, t2, cs2, f2, p2, q2, hg2, ht2, hv2, hd2, ⟨g3, t3, cs3, f3, p3, q3, hg3, ht3, hv3, hd3, ⟨g4, t4, cs4, f4, p4, q4, hg4, ht4, hv4, hd4, ⟨g5, t5, cs5, f5, p5, q5, hg5, ht5, hv5, hd5, _, _⟩, _⟩, _⟩, _⟩, _⟩, _⟩, _, _⟩ := h
  obtain rfl := Option.some.inj (gL5.symm.trans hg5)
  obtain rfl := Option.some.inj (tL5.symm.trans ht5)
  have hc := cells_of_strs (zs := Kn.names) Tryd.underlying130 Tryd.underlying9 (by kernel_rfl) (by kernel_rfl) hd5
  obtain ⟨cs, hh, _⟩ := hsh.1 0 (Array.replicate 7 (.string ByteArray.empty)) 130 (of_decide_eq_true (by kernel_rfl)) (by kernel_rfl)
  obtain ⟨t, p, hh2⟩ := cells_of_var hg5 hv5
  rw [hh] at hh2
  have hcs : cs = cs5 := by
    injection hh2 with h1
    injection h1
  show W.heap[0]? = some (.cells (Kn.names.map vS).toArray 130 (0, 0))
  rw [hh, hcs, ← Array.toArray_toList (xs := cs5), hc]
theorem open_T23 {H : Type} {enc : TypeId × Value → H} {W : World} {cs : List Value} (h : Rdb enc Tryd.prog W 23 cs) : ∃ (x0 : Int) (x1 : Int) (x2 : Int) (x3 : Int) (x4 : Int) (x5 : Int) (x6 : Int), cs = [.int .i64 x0, .int .i64 x1, .int .i64 x2, .int .i64 x3, .int .i64 x4, .int .i64 x5, .int .i64 x6] ∧ (Kn.I64s [x0, x1, x2, x3, x4, x5, x6]) := by
  have h0 : Rdb enc Tryd.prog W 3 ((cs.drop 0).take 1) := by
    have h_ : Rdb enc Tryd.prog W 3 ((cs.drop 0).take (Tryd.prog.cellsOf 3)) := by
      exact h.field Tryd.underlying23 0 _ rfl
    rwa [show Tryd.prog.cellsOf 3 = 1 by kernel_rfl] at h_
  obtain ⟨x0, e0, b0⟩ := h0.int Tryd.underlying3
  have h1 : Rdb enc Tryd.prog W 3 ((cs.drop 1).take 1) := by
    have h_ : Rdb enc Tryd.prog W 3 ((cs.drop 1).take (Tryd.prog.cellsOf 3)) := by
      exact h.field Tryd.underlying23 1 _ rfl
    rwa [show Tryd.prog.cellsOf 3 = 1 by kernel_rfl] at h_
  obtain ⟨x1, e1, b1⟩ := h1.int Tryd.underlying3
  have h2 : Rdb enc Tryd.prog W 3 ((cs.drop 2).take 1) := by
    have h_ : Rdb enc Tryd.prog W 3 ((cs.drop 2).take (Tryd.prog.cellsOf 3)) := by
      exact h.field Tryd.underlying23 2 _ rfl
    rwa [show Tryd.prog.cellsOf 3 = 1 by kernel_rfl] at h_
  obtain ⟨x2, e2, b2⟩ := h2.int Tryd.underlying3
  have h3 : Rdb enc Tryd.prog W 3 ((cs.drop 3).take 1) := by
    have h_ : Rdb enc Tryd.prog W 3 ((cs.drop 3).take (Tryd.prog.cellsOf 3)) := by
      exact h.field Tryd.underlying23 3 _ rfl
    rwa [show Tryd.prog.cellsOf 3 = 1 by kernel_rfl] at h_
  obtain ⟨x3, e3, b3⟩ := h3.int Tryd.underlying3
  have h4 : Rdb enc Tryd.prog W 3 ((cs.drop 4).take 1) := by
    have h_ : Rdb enc Tryd.prog W 3 ((cs.drop 4).take (Tryd.prog.cellsOf 3)) := by
      exact h.field Tryd.underlying23 4 _ rfl
    rwa [show Tryd.prog.cellsOf 3 = 1 by kernel_rfl] at h_
  obtain ⟨x4, e4, b4⟩ := h4.int Tryd.underlying3
  have h5 : Rdb enc Tryd.prog W 3 ((cs.drop 5).take 1) := by
    have h_ : Rdb enc Tryd.prog W 3 ((cs.drop 5).take (Tryd.prog.cellsOf 3)) := by
      exact h.field Tryd.underlying23 5 _ rfl
    rwa [show Tryd.prog.cellsOf 3 = 1 by kernel_rfl] at h_
  obtain ⟨x5, e5, b5⟩ := h5.int Tryd.underlying3
  have h6 : Rdb enc Tryd.prog W 3 ((cs.drop 6).take 1) := by
    have h_ : Rdb enc Tryd.prog W 3 ((cs.drop 6).take (Tryd.prog.cellsOf 3)) := by
      exact h.field Tryd.underlying23 6 _ rfl
    rwa [show Tryd.prog.cellsOf 3 = 1 by kernel_rfl] at h_
  obtain ⟨x6, e6, b6⟩ := h6.int Tryd.underlying3
  have hI : Kn.I64s [x0, x1, x2, x3, x4, x5, x6] := by
    intro x hx
    simp only [List.mem_cons, List.not_mem_nil, or_false] at hx
    rcases hx with rfl | rfl | rfl | rfl | rfl | rfl | rfl <;> assumption
  have hc : cs = [.int .i64 x0, .int .i64 x1, .int .i64 x2, .int .i64 x3, .int .i64 x4, .int .i64 x5, .int .i64 x6] := (List.drop_zero (l := cs)).symm.trans (by rw [cut_next (m := 1) e0 rfl, cut_next (m := 2) e1 rfl, cut_next (m := 3) e2 rfl, cut_next (m := 4) e3 rfl, cut_next (m := 5) e4 rfl, cut_next (m := 6) e5 rfl, cut_next (m := 7) e6 rfl, cut_end (m := 7) (by rw [h.len Tryd.underlying23]; kernel_rfl)]; rfl)
  exact ⟨x0, x1, x2, x3, x4, x5, x6, hc, hI⟩
theorem open_T38 {H : Type} {enc : TypeId × Value → H} {W : World} {cs : List Value} (h : Rdb enc Tryd.prog W 38 cs) : ∃ (x0 : Int) (x1 : Int) (x2 : Int) (x3 : Int), cs = [.int .i64 x0, .int .i64 x1, .int .i64 x2, .int .i64 x3] ∧ (Kn.I64s [x0, x1, x2, x3]) := by
  have h0 : Rdb enc Tryd.prog W 3 ((cs.drop 0).take 1) := by
    have h_ : Rdb enc Tryd.prog W 3 ((cs.drop 0).take (Tryd.prog.cellsOf 3)) := by
      exact h.field Tryd.underlying38 0 _ rfl
    rwa [show Tryd.prog.cellsOf 3 = 1 by kernel_rfl] at h_
  obtain ⟨x0, e0, b0⟩ := h0.int Tryd.underlying3
  have h1 : Rdb enc Tryd.prog W 3 ((cs.drop 1).take 1) := by
    have h_ : Rdb enc Tryd.prog W 3 ((cs.drop 1).take (Tryd.prog.cellsOf 3)) := by
      exact h.field Tryd.underlying38 1 _ rfl
    rwa [show Tryd.prog.cellsOf 3 = 1 by kernel_rfl] at h_
  obtain ⟨x1, e1, b1⟩ := h1.int Tryd.underlying3
  have h2 : Rdb enc Tryd.prog W 3 ((cs.drop 2).take 1) := by
    have h_ : Rdb enc Tryd.prog W 3 ((cs.drop 2).take (Tryd.prog.cellsOf 3)) := by
      exact h.field Tryd.underlying38 2 _ rfl
    rwa [show Tryd.prog.cellsOf 3 = 1 by kernel_rfl] at h_
  obtain ⟨x2, e2, b2⟩ := h2.int Tryd.underlying3
  have h3 : Rdb enc Tryd.prog W 3 ((cs.drop 3).take 1) := by
    have h_ : Rdb enc Tryd.prog W 3 ((cs.drop 3).take (Tryd.prog.cellsOf 3)) := by
      exact h.field Tryd.underlying38 3 _ rfl
    rwa [show Tryd.prog.cellsOf 3 = 1 by kernel_rfl] at h_
  obtain ⟨x3, e3, b3⟩ := h3.int Tryd.underlying3
  have hI : Kn.I64s [x0, x1, x2, x3] := by
    intro x hx
    simp only [List.mem_cons, List.not_mem_nil, or_false] at hx
    rcases hx with rfl | rfl | rfl | rfl <;> assumption
  have hc : cs = [.int .i64 x0, .int .i64 x1, .int .i64 x2, .int .i64 x3] := (List.drop_zero (l := cs)).symm.trans (by rw [cut_next (m := 1) e0 rfl, cut_next (m := 2) e1 rfl, cut_next (m := 3) e2 rfl, cut_next (m := 4) e3 rfl, cut_end (m := 4) (by rw [h.len Tryd.underlying38]; kernel_rfl)]; rfl)
  exact ⟨x0, x1, x2, x3, hc, hI⟩
theorem open_T26 {H : Type} {enc : TypeId × Value → H} {W : World} {cs : List Value} (h : Rdb enc Tryd.prog W 26 cs) : ∃ (x0 : Int) (x1 : Int) (x2 : Int) (x3 : Int) (x4 : Int) (x5 : Int) (x6 : Int) (x7 : Int) (x8 : Int) (x9 : Int) (x10 : Int) (x11 : Int) (x12 : Int) (v13 : Value) (l13 : List Cl), cs = [.int .i64 x0, .int .i64 x1, .int .i64 x2, .int .i64 x3, .int .i64 x4, .int .i64 x5, .int .i64 x6, .int .i64 x7, .int .i64 x8, .int .i64 x9, .int .i64 x10, .int .i64 x11, .int .i64 x12, v13] ∧ (Kn.I64s [x0, x1, x2, x3, x4, x5, x6, x7, x8, x9, x10, x11, x12]) ∧ (Elt W v13 4 (l13.map Cl.cells)) ∧ (∀ a ∈ l13, (Cf.ClI) a) := by
  have h0 : Rdb enc Tryd.prog W 3 ((cs.drop 0).take 1) := by
    have h_ : Rdb enc Tryd.prog W 3 ((cs.drop 0).take (Tryd.prog.cellsOf 3)) := by
      exact h.field Tryd.underlying26 0 _ rfl
    rwa [show Tryd.prog.cellsOf 3 = 1 by kernel_rfl] at h_
  obtain ⟨x0, e0, b0⟩ := h0.int Tryd.underlying3
  have h1 : Rdb enc Tryd.prog W 3 ((cs.drop 1).take 1) := by
    have h_ : Rdb enc Tryd.prog W 3 ((cs.drop 1).take (Tryd.prog.cellsOf 3)) := by
      exact h.field Tryd.underlying26 1 _ rfl
    rwa [show Tryd.prog.cellsOf 3 = 1 by kernel_rfl] at h_
  obtain ⟨x1, e1, b1⟩ := h1.int Tryd.underlying3
  have h2 : Rdb enc Tryd.prog W 3 ((cs.drop 2).take 1) := by
    have h_ : Rdb enc Tryd.prog W 3 ((cs.drop 2).take (Tryd.prog.cellsOf 3)) := by
      exact h.field Tryd.underlying26 2 _ rfl
    rwa [show Tryd.prog.cellsOf 3 = 1 by kernel_rfl] at h_
  obtain ⟨x2, e2, b2⟩ := h2.int Tryd.underlying3
  have h3 : Rdb enc Tryd.prog W 3 ((cs.drop 3).take 1) := by
    have h_ : Rdb enc Tryd.prog W 3 ((cs.drop 3).take (Tryd.prog.cellsOf 3)) := by
      exact h.field Tryd.underlying26 3 _ rfl
    rwa [show Tryd.prog.cellsOf 3 = 1 by kernel_rfl] at h_
  obtain ⟨x3, e3, b3⟩ := h3.int Tryd.underlying3
  have h4 : Rdb enc Tryd.prog W 3 ((cs.drop 4).take 1) := by
    have h_ : Rdb enc Tryd.prog W 3 ((cs.drop 4).take (Tryd.prog.cellsOf 3)) := by
      exact h.field Tryd.underlying26 4 _ rfl
    rwa [show Tryd.prog.cellsOf 3 = 1 by kernel_rfl] at h_
  obtain ⟨x4, e4, b4⟩ := h4.int Tryd.underlying3
  have h5 : Rdb enc Tryd.prog W 3 ((cs.drop 5).take 1) := by
    have h_ : Rdb enc Tryd.prog W 3 ((cs.drop 5).take (Tryd.prog.cellsOf 3)) := by
      exact h.field Tryd.underlying26 5 _ rfl
    rwa [show Tryd.prog.cellsOf 3 = 1 by kernel_rfl] at h_
  obtain ⟨x5, e5, b5⟩ := h5.int Tryd.underlying3
  have h6 : Rdb enc Tryd.prog W 23 ((cs.drop 6).take 7) := by
    have h_ : Rdb enc Tryd.prog W 23 ((cs.drop 6).take (Tryd.prog.cellsOf 23)) := by
      exact h.field Tryd.underlying26 6 _ rfl
    rwa [show Tryd.prog.cellsOf 23 = 7 by kernel_rfl] at h_
  obtain ⟨x6, x7, x8, x9, x10, x11, x12, e6, hI_6⟩ := open_T23 h6
  have b6 : Dc.I64 x6 := hI_6 _ (by simp)
  have b7 : Dc.I64 x7 := hI_6 _ (by simp)
  have b8 : Dc.I64 x8 := hI_6 _ (by simp)
  have b9 : Dc.I64 x9 := hI_6 _ (by simp)
  have b10 : Dc.I64 x10 := hI_6 _ (by simp)
  have b11 : Dc.I64 x11 := hI_6 _ (by simp)
  have b12 : Dc.I64 x12 := hI_6 _ (by simp)
  have h7 : Rdb enc Tryd.prog W 24 ((cs.drop 13).take 1) := by
    have h_ : Rdb enc Tryd.prog W 24 ((cs.drop 13).take (Tryd.prog.cellsOf 24)) := by
      exact h.field Tryd.underlying26 7 _ rfl
    rwa [show Tryd.prog.cellsOf 24 = 1 by kernel_rfl] at h_
  obtain ⟨v13, m13, e7, E13, r13⟩ := h7.slice 4 (by decide) Tryd.underlying24 (by kernel_rfl)
  obtain ⟨l13, rfl, q13⟩ := lift_map (f := Cl.cells) (Q := Cf.ClI) fun b hb => (by obtain ⟨x0, x1, x2, x3, e_, FhI⟩ := open_T38 (r13 b hb); exact ⟨⟨x0, x1, x2, x3⟩, e_, FhI⟩)
  have hI : Kn.I64s [x0, x1, x2, x3, x4, x5, x6, x7, x8, x9, x10, x11, x12] := by
    intro x hx
    simp only [List.mem_cons, List.not_mem_nil, or_false] at hx
    rcases hx with rfl | rfl | rfl | rfl | rfl | rfl | rfl | rfl | rfl | rfl | rfl | rfl | rfl <;> assumption
  have hc : cs = [.int .i64 x0, .int .i64 x1, .int .i64 x2, .int .i64 x3, .int .i64 x4, .int .i64 x5, .int .i64 x6, .int .i64 x7, .int .i64 x8, .int .i64 x9, .int .i64 x10, .int .i64 x11, .int .i64 x12, v13] := (List.drop_zero (l := cs)).symm.trans (by rw [cut_next (m := 1) e0 rfl, cut_next (m := 2) e1 rfl, cut_next (m := 3) e2 rfl, cut_next (m := 4) e3 rfl, cut_next (m := 5) e4 rfl, cut_next (m := 6) e5 rfl, cut_next (m := 13) e6 rfl, cut_next (m := 14) e7 rfl, cut_end (m := 14) (by rw [h.len Tryd.underlying26]; kernel_rfl)]; rfl)
  exact ⟨x0, x1, x2, x3, x4, x5, x6, x7, x8, x9, x10, x11, x12, v13, l13, hc, hI, E13, q13⟩
theorem open_T29 {H : Type} {enc : TypeId × Value → H} {W : World} {cs : List Value} (h : Rdb enc Tryd.prog W 29 cs) : ∃ (s0 : List UInt8) (s1 : List UInt8) (v2 : Value) (l2 : List (List UInt8)), cs = [str s0, str s1, v2] ∧ (Elt W v2 1 (l2.map encS)) := by
  have h0 : Rdb enc Tryd.prog W 9 ((cs.drop 0).take 1) := by
    have h_ : Rdb enc Tryd.prog W 9 ((cs.drop 0).take (Tryd.prog.cellsOf 9)) := by
      exact h.field Tryd.underlying29 0 _ rfl
    rwa [show Tryd.prog.cellsOf 9 = 1 by kernel_rfl] at h_
  obtain ⟨s0, e0⟩ := h0.str Tryd.underlying9
  have h1 : Rdb enc Tryd.prog W 9 ((cs.drop 1).take 1) := by
    have h_ : Rdb enc Tryd.prog W 9 ((cs.drop 1).take (Tryd.prog.cellsOf 9)) := by
      exact h.field Tryd.underlying29 1 _ rfl
    rwa [show Tryd.prog.cellsOf 9 = 1 by kernel_rfl] at h_
  obtain ⟨s1, e1⟩ := h1.str Tryd.underlying9
  have h2 : Rdb enc Tryd.prog W 27 ((cs.drop 2).take 1) := by
    have h_ : Rdb enc Tryd.prog W 27 ((cs.drop 2).take (Tryd.prog.cellsOf 27)) := by
      exact h.field Tryd.underlying29 2 _ rfl
    rwa [show Tryd.prog.cellsOf 27 = 1 by kernel_rfl] at h_
  obtain ⟨v2, l2, e2, E2⟩ := h2.strs Tryd.underlying27 Tryd.underlying9 (by kernel_rfl)
  have hc : cs = [str s0, str s1, v2] := (List.drop_zero (l := cs)).symm.trans (by rw [cut_next (m := 1) e0 rfl, cut_next (m := 2) e1 rfl, cut_next (m := 3) e2 rfl, cut_end (m := 3) (by rw [h.len Tryd.underlying29]; kernel_rfl)]; rfl)
  exact ⟨s0, s1, v2, l2, hc, E2⟩
theorem open_T51 {H : Type} {enc : TypeId × Value → H} {W : World} {cs : List Value} (h : Rdb enc Tryd.prog W 51 cs) : ∃ (x0 : Int) (x1 : Int) (x2 : Int), cs = [.int .i64 x0, .int .i64 x1, .int .i64 x2] ∧ (Kn.I64s [x0, x1, x2]) := by
  have h0 : Rdb enc Tryd.prog W 3 ((cs.drop 0).take 1) := by
    have h_ : Rdb enc Tryd.prog W 3 ((cs.drop 0).take (Tryd.prog.cellsOf 3)) := by
      exact h.field Tryd.underlying51 0 _ rfl
    rwa [show Tryd.prog.cellsOf 3 = 1 by kernel_rfl] at h_
  obtain ⟨x0, e0, b0⟩ := h0.int Tryd.underlying3
  have h1 : Rdb enc Tryd.prog W 3 ((cs.drop 1).take 1) := by
    have h_ : Rdb enc Tryd.prog W 3 ((cs.drop 1).take (Tryd.prog.cellsOf 3)) := by
      exact h.field Tryd.underlying51 1 _ rfl
    rwa [show Tryd.prog.cellsOf 3 = 1 by kernel_rfl] at h_
  obtain ⟨x1, e1, b1⟩ := h1.int Tryd.underlying3
  have h2 : Rdb enc Tryd.prog W 3 ((cs.drop 2).take 1) := by
    have h_ : Rdb enc Tryd.prog W 3 ((cs.drop 2).take (Tryd.prog.cellsOf 3)) := by
      exact h.field Tryd.underlying51 2 _ rfl
    rwa [show Tryd.prog.cellsOf 3 = 1 by kernel_rfl] at h_
  obtain ⟨x2, e2, b2⟩ := h2.int Tryd.underlying3
  have hI : Kn.I64s [x0, x1, x2] := by
    intro x hx
    simp only [List.mem_cons, List.not_mem_nil, or_false] at hx
    rcases hx with rfl | rfl | rfl <;> assumption
  have hc : cs = [.int .i64 x0, .int .i64 x1, .int .i64 x2] := (List.drop_zero (l := cs)).symm.trans (by rw [cut_next (m := 1) e0 rfl, cut_next (m := 2) e1 rfl, cut_next (m := 3) e2 rfl, cut_end (m := 3) (by rw [h.len Tryd.underlying51]; kernel_rfl)]; rfl)
  exact ⟨x0, x1, x2, hc, hI⟩

end Go.Proofs.YtilcmkegbmppnaaDoor
