/-
  Walks, printed by a program of mine (lk.py): each function meets its contract.
-/
import Derived.KernelRfl
import Derived.Test.YtcojpllfkobkeaaDoorLV3
namespace Go.Proofs.YtcojpllfkobkeaaDoor
open Go Go.LK
set_option linter.unusedSimpArgs false

theorem lv_New_eq (b c x y e : Int) (h : Lv.new b c = (x, y, e)) : Tri Tryd.prog 6 #[.int .i64 b, .int .i64 c] [] [] (fun v L' => v = .tuple #[.agg #[.int .i64 x, .int .i64 y], .int .i64 e] ∧ L' = []) := by
  have := lv_New b c
  rw [h] at this
  exact this
theorem lv_Of_eq (b c x y k e : Int) (hg : Lv.Ok b c) (h : Lv.of b c x y = (k, e)) : Tri Tryd.prog 8 #[.agg #[.int .i64 b, .int .i64 c], .int .i64 x, .int .i64 y] [] [] (fun v L' => v = .tuple #[.int .i64 k, .int .i64 e] ∧ L' = []) := by
  have := lv_Of b c x y hg
  rw [h] at this
  exact this
theorem lv_Text_eq (b c l : Int) (t : List UInt8) (e : Int) (hg : Lv.Ok b c) (h : Lv.text b c l = (t, e)) : Tri Tryd.prog 14 #[.agg #[.int .i64 b, .int .i64 c], .int .i64 l] [libW] [] (fun v L' => v = .tuple #[str t, .int .i64 e] ∧ L' = []) := by
  have := lv_Text b c l hg
  rw [h] at this
  exact this
theorem lv_Parse_eq (b c : Int) (s : List UInt8) (k e : Int) (hg : Lv.Ok b c) (hs : s.length ≤ 1000000) (h : Lv.parse b c s = (k, e)) : Tri Tryd.prog 16 #[.agg #[.int .i64 b, .int .i64 c], str s] [libW] [] (fun v L' => v = .tuple #[.int .i64 k, .int .i64 e] ∧ L' = []) := by
  have := lv_Parse b c s hg hs
  rw [h] at this
  exact this

set_option maxRecDepth 100000 in
theorem law08_awake  : Tri Tryd.prog 11 #[] [libW] [] (fun v L' => v = .bool true ∧ L' = []) := by
  refine Tri.enter (args := []) (body := _) 67 Tryd.func11 rfl Tryd.ntmps11 rfl ?_
  intro w0
  refine J.seq ?_
  refine J.region ?_
  refine O.p (Pu.assign rfl) rfl ?_
  refine O.nil ?_
  refine J.seq ?_
  refine J.region ?_
  refine O.l (Lo.call [.int .i64 4, .int .i64 8] (by exact Tryd.call6) rfl (lv_New_eq 4 8 4 8 0 (by rfl)) [] [] (by decide) rfl _ rfl RoOk.nil) rfl ?_
  rintro _ _ ⟨_, ⟨rfl, rfl⟩, rfl⟩
  refine O.p (Pu.move rfl) rfl ?_
  refine O.p (Pu.extract rfl rfl) rfl ?_
  refine O.p (Pu.extract rfl rfl) rfl ?_
  refine O.l (Lo.alloc [.int .i64 0, .int .i64 0] (by exact Tryd.zeroValue26) rfl) rfl ?_
  rintro _ _ ⟨g2, rfl, rfl⟩
  refine O.l0 (Lo.store 0 (vs := [.int .i64 4, .int .i64 8]) [.int .i64 4, .int .i64 8] rfl rfl rfl (by exact Tryd.sizeOf26) rfl rfl rfl rfl rfl) ?_
  rintro _ _ rfl
  refine O.p (Pu.assign rfl) rfl ?_
  refine O.nil ?_
  refine J.seq ?_
  refine J.region ?_
  refine O.q (Qt.ld rfl (Cel.var 0 rfl) (o := 0) (off := 0) rfl (Cut.agg [.int .i64 4, .int .i64 8] Tryd.isAgg26 Tryd.sizeOf26 rfl rfl)) rfl ?_
  refine O.l (Lo.call [.agg #[.int .i64 4, .int .i64 8], .int .i64 2, .int .i64 3] (by exact Tryd.call8) rfl (lv_Of_eq 4 8 2 3 19 0 (by exact .inl ⟨by decide, by decide, by decide, by decide⟩) (by rfl)) [] [0] (by decide) rfl _ rfl RoOk.nil) rfl ?_
  rintro _ _ ⟨_, ⟨rfl, rfl⟩, rfl⟩
  refine O.p (Pu.move rfl) rfl ?_
  refine O.p (Pu.extract rfl rfl) rfl ?_
  refine O.p (Pu.extract rfl rfl) rfl ?_
  refine O.p (Pu.assign rfl) rfl ?_
  refine O.p (Pu.assign rfl) rfl ?_
  refine O.nil ?_
  refine J.seq ?_
  refine J.region ?_
  refine O.q (Qt.ld rfl (Cel.var 0 rfl) (o := 0) (off := 0) rfl (Cut.agg [.int .i64 4, .int .i64 8] Tryd.isAgg26 Tryd.sizeOf26 rfl rfl)) rfl ?_
  refine O.l (Lo.call [.agg #[.int .i64 4, .int .i64 8], .int .i64 19] (by exact Tryd.call14) rfl (lv_Text_eq 4 8 19 [50, 46, 51] 0 (by exact .inl ⟨by decide, by decide, by decide, by decide⟩) Lv.aw_text) [] [0] (by decide) rfl _ rfl (RoOk.ro 0 rfl [] rfl RoOk.nil)) rfl ?_
  rintro _ _ ⟨_, ⟨rfl, rfl⟩, rfl⟩
  refine O.p (Pu.move rfl) rfl ?_
  refine O.p (Pu.extract rfl rfl) rfl ?_
  refine O.p (Pu.extract rfl rfl) rfl ?_
  refine O.p (Pu.assign rfl) rfl ?_
  refine O.p (Pu.assign rfl) rfl ?_
  refine O.nil ?_
  refine J.seq ?_
  refine J.region ?_
  refine O.q (Qt.ld rfl (Cel.var 0 rfl) (o := 0) (off := 0) rfl (Cut.agg [.int .i64 4, .int .i64 8] Tryd.isAgg26 Tryd.sizeOf26 rfl rfl)) rfl ?_
  refine O.l (Lo.call [.agg #[.int .i64 4, .int .i64 8], str ([50, 46, 51])] (by exact Tryd.call16) rfl (lv_Parse_eq 4 8 [50, 46, 51] 19 0 (by exact .inl ⟨by decide, by decide, by decide, by decide⟩) (by decide) Lv.aw_parse) [] [0] (by decide) rfl _ rfl (RoOk.ro 0 rfl [] rfl RoOk.nil)) rfl ?_
  rintro _ _ ⟨_, ⟨rfl, rfl⟩, rfl⟩
  refine O.p (Pu.move rfl) rfl ?_
  refine O.p (Pu.extract rfl rfl) rfl ?_
  refine O.p (Pu.extract rfl rfl) rfl ?_
  refine O.p (Pu.assign rfl) rfl ?_
  refine O.p (Pu.assign rfl) rfl ?_
  refine O.nil ?_
  refine J.seq ?_
  refine J.region ?_
  refine O.p (Pu.move rfl) rfl ?_
  refine O.p (Pu.eql rfl rfl) rfl ?_
  refine O.p (Pu.move rfl) rfl ?_
  refine O.gq (t := 30) rfl rfl rfl rfl (Pu.qt (Pu.move rfl)) rfl ?_
  refine O.gq (t := 30) rfl rfl rfl rfl (Pu.qt (Pu.eql rfl rfl)) rfl ?_
  refine O.p (Pu.pickT rfl rfl rfl) rfl ?_
  refine O.p (Pu.move rfl) rfl ?_
  refine O.gq (t := 34) rfl rfl rfl rfl (Pu.qt (Pu.move rfl)) rfl ?_
  refine O.gq (t := 34) rfl rfl rfl rfl (Pu.qt (Pu.eql rfl rfl)) rfl ?_
  refine O.p (Pu.pickT rfl rfl rfl) rfl ?_
  refine O.p (Pu.move rfl) rfl ?_
  refine O.gq (t := 38) rfl rfl rfl rfl (Pu.qt (Pu.move rfl)) rfl ?_
  refine O.gq (t := 38) rfl rfl rfl rfl (Pu.qt (Pu.sEql rfl rfl)) rfl ?_
  refine O.p (Pu.pickT rfl rfl rfl) rfl ?_
  refine O.p (Pu.move rfl) rfl ?_
  refine O.gq (t := 42) rfl rfl (by simp) rfl (Pu.qt (Pu.move rfl)) rfl ?_
  refine O.gq (t := 42) rfl rfl (by simp) rfl (Pu.qt (Pu.eql rfl rfl)) rfl ?_
  refine O.p (Pu.pickT rfl (by simp) rfl) rfl ?_
  refine O.p (Pu.move rfl) rfl ?_
  refine O.gq (t := 46) rfl rfl rfl rfl (Pu.qt (Pu.move rfl)) rfl ?_
  refine O.gq (t := 46) rfl rfl rfl rfl (Pu.qt (Pu.eql rfl rfl)) rfl ?_
  refine O.p (Pu.pickT rfl rfl rfl) rfl ?_
  refine O.p (Pu.move rfl) rfl ?_
  refine O.gq (t := 50) rfl rfl rfl rfl (Pu.qt (Pu.move rfl)) rfl ?_
  refine O.gq (t := 50) rfl rfl rfl rfl (Pu.qt (Pu.eql rfl rfl)) rfl ?_
  refine O.p (Pu.pickT rfl rfl rfl) rfl ?_
  refine O.p (Pu.move rfl) rfl ?_
  refine O.gq (t := 54) rfl rfl rfl rfl (Pu.qt (Pu.fieldAddr (off' := 0) Tryd.runUnderlying26 rfl Tryd.sizeOf24 rfl rfl rfl)) rfl ?_
  refine O.gq (t := 54) rfl rfl rfl rfl (Qt.ld rfl (Cel.var 0 rfl) (o := 0) (off := 0) rfl (Cut.agg [.int .i64 4, .int .i64 8] Tryd.isAgg24 Tryd.sizeOf24 rfl rfl)) rfl ?_
  refine O.gl (t := 54) rfl rfl rfl rfl (Lo.call [.agg #[.int .i64 4, .int .i64 8]] (by exact Tryd.call10) rfl (lv_Levels 4 8 (by exact .inl ⟨by decide, by decide, by decide, by decide⟩)) [] [0] (by decide) rfl _ rfl RoOk.nil) rfl ?_
  rintro _ _ ⟨_, ⟨rfl, rfl⟩, rfl⟩
  refine O.gq (t := 54) rfl rfl rfl rfl (Pu.qt (Pu.eql rfl rfl)) rfl ?_
  refine O.p (Pu.pickT rfl rfl rfl) rfl ?_
  refine O.p (Pu.move rfl) rfl ?_
  refine O.gl (t := 60) rfl rfl (by decide) rfl (Lo.call [.int .i64 3, .int .i64 4] (by exact Tryd.call18) rfl (lv_Passes 3 4) [] [0] (by decide) rfl _ rfl RoOk.nil) rfl ?_
  rintro _ _ ⟨_, ⟨rfl, rfl⟩, rfl⟩
  refine O.p (Pu.pickT rfl (by decide) rfl) rfl ?_
  refine O.p (Pu.move rfl) rfl ?_
  refine O.gl (t := 63) rfl rfl (by decide) rfl (Lo.call [.int .i64 4, .int .i64 4] (by exact Tryd.call18) rfl (lv_Passes 4 4) [] [0] (by decide) rfl _ rfl RoOk.nil) rfl ?_
  rintro _ _ ⟨_, ⟨rfl, rfl⟩, rfl⟩
  refine O.gq (t := 63) rfl rfl (by decide) rfl (Pu.qt (Pu.not rfl)) rfl ?_
  refine O.p (Pu.pickT rfl (by decide) rfl) rfl ?_
  refine O.p (Pu.assign rfl) rfl ?_
  refine O.nil ?_
  exact J.ret (Fin.ret (rs := [.tmp 0]) rfl [_] ⟨rfl, trivial⟩ [] (by decide) [] rfl ⟨(by first | rfl | (simp only [vOf]; congr 1)), rfl⟩)

end Go.Proofs.YtcojpllfkobkeaaDoor
