/-
  Walks, printed by a program of mine (lk.py): each function meets its contract.
-/
import Derived.KernelRfl
import Derived.Test.YtnfkoohgdcocdaaDoorKX2
namespace Go.Proofs.YtnfkoohgdcocdaaDoor
open Go Go.LK
set_option linter.unusedSimpArgs false

theorem kn_Parse_eq (s : List UInt8) (l : List Int) (c : Int) (hs : s.length ≤ 100000) (h : Kn.parse s = (l, c)) : Tri Tryd.prog 53 #[str s] [libW, var 1 (Kn.names.map vS) 131] [] (fun v L' => v = .tuple #[.agg (l.map vI).toArray, .int .i64 c] ∧ L' = []) := by
  have := kn_Parse s hs
  rw [h] at this
  exact this

set_option maxRecDepth 100000 in
theorem law18_awake  : Tri Tryd.prog 52 #[] [libW, var 1 (Kn.names.map vS) 131] [] (fun v L' => v = .bool true ∧ L' = []) := by
  refine Tri.enter (args := []) (body := _) 33 Tryd.func52 rfl Tryd.ntmps52 rfl ?_
  intro w0
  refine J.seq ?_
  refine J.region ?_
  refine O.p (Pu.assign rfl) rfl ?_
  refine O.nil ?_
  refine J.seq ?_
  refine J.region ?_
  refine O.l (Lo.call [.int .i64 8] (by exact Tryd.call63) rfl (kn_Usual 8) [] [] (by decide) rfl _ rfl RoOk.nil) rfl ?_
  rintro _ _ ⟨_, ⟨rfl, rfl⟩, rfl⟩
  refine O.l (Lo.alloc [.int .i64 0, .int .i64 0, .int .i64 0, .int .i64 0, .int .i64 0, .int .i64 0, .int .i64 0] (by exact Tryd.zeroValue50) rfl) rfl ?_
  rintro _ _ ⟨g2, rfl, rfl⟩
  refine O.l0 (Lo.store 0 (vs := [.int .i64 1, .int .i64 4, .int .i64 10, .int .i64 5, .int .i64 1, .int .i64 3, .int .i64 2]) [.int .i64 1, .int .i64 4, .int .i64 10, .int .i64 5, .int .i64 1, .int .i64 3, .int .i64 2] rfl rfl rfl (by exact Tryd.sizeOf50) rfl rfl rfl rfl rfl) ?_
  rintro _ _ rfl
  refine O.nil ?_
  refine J.seq ?_
  refine J.region ?_
  refine O.q (Qt.ld rfl (Cel.var 0 rfl) (o := 0) (off := 0) rfl (Cut.agg [.int .i64 1, .int .i64 4, .int .i64 10, .int .i64 5, .int .i64 1, .int .i64 3, .int .i64 2] Tryd.isAgg50 Tryd.sizeOf50 rfl rfl)) rfl ?_
  refine O.l (Lo.call [.agg #[.int .i64 1, .int .i64 4, .int .i64 10, .int .i64 5, .int .i64 1, .int .i64 3, .int .i64 2]] (by exact Tryd.call55) rfl (kn_Text 1 4 10 5 1 3 2 (by exact Kn.usual_I)) [] [0] (by decide) rfl _ rfl (RoOk.ro 0 rfl [] rfl (RoOk.ro 1 rfl [] rfl RoOk.nil))) rfl ?_
  rintro _ _ ⟨_, ⟨rfl, rfl⟩, rfl⟩
  refine O.l (Lo.call [str (Kn.text [1, 4, 10, 5, 1, 3, 2])] (by exact Tryd.call53) rfl (kn_Parse_eq (Kn.text [1, 4, 10, 5, 1, 3, 2]) [1, 4, 10, 5, 1, 3, 2] 0 (by have h_ := Kn.text_len (l := [1, 4, 10, 5, 1, 3, 2]) rfl Kn.usual_I; omega) (Kn.back (l := [1, 4, 10, 5, 1, 3, 2]) rfl Kn.usual_I)) [] [0] (by decide) rfl _ rfl (RoOk.ro 0 rfl [] rfl (RoOk.ro 1 rfl [] rfl RoOk.nil))) rfl ?_
  rintro _ _ ⟨_, ⟨rfl, rfl⟩, rfl⟩
  refine O.p (Pu.move rfl) rfl ?_
  refine O.p (Pu.extract rfl rfl) rfl ?_
  refine O.p (Pu.extract rfl rfl) rfl ?_
  refine O.l (Lo.alloc [.int .i64 0, .int .i64 0, .int .i64 0, .int .i64 0, .int .i64 0, .int .i64 0, .int .i64 0] (by exact Tryd.zeroValue50) rfl) rfl ?_
  rintro _ _ ⟨g5, rfl, rfl⟩
  refine O.l0 (Lo.storeL 0 ([1, 4, 10, 5, 1, 3, 2]) rfl rfl rfl (by exact Tryd.sizeOf50) (show ([1, 4, 10, 5, 1, 3, 2] : List Int).length = 7 from (by first | rfl | (rfl))) (by first | rfl | (rw [List.length_map]; rfl))) ?_
  rintro _ _ rfl
  refine O.p (Pu.assign rfl) rfl ?_
  refine O.nil ?_
  refine J.seq ?_
  refine J.region ?_
  refine O.q (Qt.ld rfl (Cel.var 1 rfl) (o := 0) (off := 0) rfl (Cut.agg [.int .i64 1, .int .i64 4, .int .i64 10, .int .i64 5, .int .i64 1, .int .i64 3, .int .i64 2] Tryd.isAgg50 Tryd.sizeOf50 rfl rfl)) rfl ?_
  refine O.l (Lo.call [.agg #[.int .i64 1, .int .i64 4, .int .i64 10, .int .i64 5, .int .i64 1, .int .i64 3, .int .i64 2], .int .i64 8] (by exact Tryd.call57) rfl (kn_Check 1 4 10 5 1 3 2 8) [] [0, 1] (by decide) rfl _ rfl RoOk.nil) rfl ?_
  rintro _ _ ⟨_, ⟨rfl, rfl⟩, rfl⟩
  refine O.p (Pu.eql rfl rfl) rfl ?_
  refine O.p (Pu.move rfl) rfl ?_
  refine O.gq (t := 14) rfl rfl (by decide) rfl (Qt.ld rfl (Cel.var 1 rfl) (o := 0) (off := 0) rfl (Cut.agg [.int .i64 1, .int .i64 4, .int .i64 10, .int .i64 5, .int .i64 1, .int .i64 3, .int .i64 2] Tryd.isAgg50 Tryd.sizeOf50 rfl rfl)) rfl ?_
  refine O.gl (t := 14) rfl rfl (by decide) rfl (Lo.call [.agg #[.int .i64 1, .int .i64 4, .int .i64 10, .int .i64 5, .int .i64 1, .int .i64 3, .int .i64 2]] (by exact Tryd.call55) rfl (kn_Text 1 4 10 5 1 3 2 (by exact Kn.usual_I)) [] [0, 1] (by decide) rfl _ rfl (RoOk.ro 0 rfl [] rfl (RoOk.ro 1 rfl [] rfl RoOk.nil))) rfl ?_
  rintro _ _ ⟨_, ⟨rfl, rfl⟩, rfl⟩
  refine O.gq (t := 14) rfl rfl (by decide) rfl (Pu.qt (Pu.sEql rfl rfl)) rfl ?_
  refine O.p (Pu.pickT rfl (by decide) rfl) rfl ?_
  refine O.p (Pu.move rfl) rfl ?_
  refine O.gq (t := 19) rfl rfl (by rw [show Kn.text [1, 4, 10, 5, 1, 3, 2] = _ from Kn.usual_text]; decide) rfl (Qt.ld rfl (Cel.var 0 rfl) (o := 0) (off := 0) rfl (Cut.aggL Tryd.isAgg50 Tryd.sizeOf50 (by rfl))) rfl ?_
  refine O.gq (t := 19) rfl rfl (by rw [show Kn.text [1, 4, 10, 5, 1, 3, 2] = _ from Kn.usual_text]; decide) rfl (Qt.ld rfl (Cel.var 1 rfl) (o := 0) (off := 0) rfl (Cut.agg [.int .i64 1, .int .i64 4, .int .i64 10, .int .i64 5, .int .i64 1, .int .i64 3, .int .i64 2] Tryd.isAgg50 Tryd.sizeOf50 rfl rfl)) rfl ?_
  refine O.gq (t := 19) rfl rfl (by rw [show Kn.text [1, 4, 10, 5, 1, 3, 2] = _ from Kn.usual_text]; decide) rfl (Pu.qt (Pu.eqlL ([1, 4, 10, 5, 1, 3, 2]) ([1, 4, 10, 5, 1, 3, 2]) Tryd.underlying50 Tryd.stoodInHeld50 Tryd.eqGuardType50 (fint50 Tryd.underlying50) (show ([1, 4, 10, 5, 1, 3, 2] : List Int).length = 7 from (by first | rfl | (rfl))) (show ([1, 4, 10, 5, 1, 3, 2] : List Int).length = 7 from (by first | rfl | (rfl))) rfl rfl)) rfl ?_
  refine O.p (Pu.pickT rfl (by rw [show Kn.text [1, 4, 10, 5, 1, 3, 2] = _ from Kn.usual_text]; decide) rfl) rfl ?_
  refine O.p (Pu.move rfl) rfl ?_
  refine O.gq (t := 24) rfl rfl (by simp) rfl (Pu.qt (Pu.move rfl)) rfl ?_
  refine O.gq (t := 24) rfl rfl (by simp) rfl (Pu.qt (Pu.eql rfl rfl)) rfl ?_
  refine O.p (Pu.pickT rfl (by simp) rfl) rfl ?_
  refine O.p (Pu.move rfl) rfl ?_
  refine O.gl (t := 28) rfl rfl rfl rfl (Lo.call [] (by exact Tryd.call61) rfl kn_Names [] [0, 1] (by decide) rfl _ rfl (RoOk.ro 1 rfl [] rfl RoOk.nil)) rfl ?_
  rintro v8 _ ⟨_, rfl, rfl⟩
  refine O.gq (t := 28) rfl rfl rfl rfl (Qt.lenM Tryd.runUnderlying32 rfl (Src.row 0 rfl)) rfl ?_
  refine O.gq (t := 28) rfl rfl rfl rfl (Pu.qt (Pu.eql rfl rfl)) rfl ?_
  refine O.p (Pu.pickT rfl rfl rfl) rfl ?_
  refine O.p (Pu.assign rfl) rfl ?_
  refine O.nil ?_
  exact J.ret (Fin.ret (rs := [.tmp 0]) rfl [_] ⟨rfl, trivial⟩ [] (by decide) [] rfl ⟨rfl, rfl⟩)

set_option maxRecDepth 100000 in
theorem law18_knobTexts (a b c d e f g : Int) (s : List UInt8) (hI : Kn.I64s [a, b, c, d, e, f, g]) : Tri Tryd.prog 9 #[.agg #[.int .i64 a, .int .i64 b, .int .i64 c, .int .i64 d, .int .i64 e, .int .i64 f, .int .i64 g], str s] [libW, var 1 (Kn.names.map vS) 131] [] (fun v L' => v = .bool true ∧ L' = []) := by
  refine Tri.enter (args := [.agg #[.int .i64 a, .int .i64 b, .int .i64 c, .int .i64 d, .int .i64 e, .int .i64 f, .int .i64 g], str s]) (body := _) 41 Tryd.func9 rfl Tryd.ntmps9 rfl ?_
  intro w0
  refine J.seq ?_
  refine J.region ?_
  refine O.l (Lo.box [.int .i64 a, .int .i64 b, .int .i64 c, .int .i64 d, .int .i64 e, .int .i64 f, .int .i64 g] rfl rfl) rfl ?_
  rintro _ _ ⟨g1, rfl, rfl⟩
  refine O.p (Pu.assign rfl) rfl ?_
  refine O.nil ?_
  refine J.seq ?_
  refine J.seq ?_
  refine J.region ?_
  refine O.p (Pu.move rfl) rfl ?_
  refine O.p (Pu.sLen Tryd.runUnderlying9 rfl) rfl ?_
  refine O.p (Pu.gtr rfl rfl) rfl ?_
  refine O.nil ?_
  refine J.cond rfl (fun h2 => ?_) (fun h2 => ?_)
  ·
    have p3 := of_decide_eq_true h2
    refine J.seq ?_
    refine J.region ?_
    refine O.l (Lo.call [] (by exact Tryd.call52) rfl law18_awake [] [0] (by decide) rfl _ rfl (RoOk.ro 0 rfl [] rfl (RoOk.ro 1 rfl [] rfl RoOk.nil))) rfl ?_
    rintro _ _ ⟨_, ⟨rfl, rfl⟩, rfl⟩
    refine O.p (Pu.assign rfl) rfl ?_
    refine O.nil ?_
    exact J.ret (Fin.ret (rs := [.tmp 4]) rfl [_] ⟨rfl, trivial⟩ [] (by decide) [] rfl ⟨rfl, rfl⟩)
  ·
    have p5 := of_decide_eq_false h2
    refine J.skip ?_
    refine J.seq ?_
    refine J.region ?_
    refine O.p (Pu.move rfl) rfl ?_
    refine O.l (Lo.call [str s] (by exact Tryd.call53) rfl (kn_Parse s (by omega)) [] [0] (by decide) rfl _ rfl (RoOk.ro 0 rfl [] rfl (RoOk.ro 1 rfl [] rfl RoOk.nil))) rfl ?_
    rintro _ _ ⟨_, ⟨rfl, rfl⟩, rfl⟩
    refine O.p (Pu.move rfl) rfl ?_
    refine O.p (Pu.extract rfl rfl) rfl ?_
    refine O.p (Pu.extract rfl rfl) rfl ?_
    refine O.l (Lo.alloc [.int .i64 0, .int .i64 0, .int .i64 0, .int .i64 0, .int .i64 0, .int .i64 0, .int .i64 0] (by exact Tryd.zeroValue50) rfl) rfl ?_
    rintro _ _ ⟨g7, rfl, rfl⟩
    refine O.l0 (Lo.storeL 0 ((Kn.parse s).1) rfl rfl rfl (by exact Tryd.sizeOf50) (show ((Kn.parse s).1 : List Int).length = 7 from (by first | rfl | (exact Kn.parse_len s))) (by first | rfl | (rw [List.length_map]; exact Kn.parse_len s))) ?_
    rintro _ _ rfl
    refine O.p (Pu.assign rfl) rfl ?_
    refine O.nil ?_
    refine J.seq ?_
    refine J.region ?_
    refine O.p (Pu.move rfl) rfl ?_
    refine O.l (Lo.call [str s] (by exact Tryd.call54) rfl (r18_Parse s (by omega)) [] [0, 1] (by decide) rfl _ rfl RoOk.nil) rfl ?_
    rintro _ _ ⟨_, ⟨rfl, rfl⟩, rfl⟩
    refine O.p (Pu.move rfl) rfl ?_
    refine O.p (Pu.extract rfl rfl) rfl ?_
    refine O.p (Pu.extract rfl rfl) rfl ?_
    refine O.l (Lo.alloc [.int .i64 0, .int .i64 0, .int .i64 0, .int .i64 0, .int .i64 0, .int .i64 0, .int .i64 0] (by exact Tryd.zeroValue50) rfl) rfl ?_
    rintro _ _ ⟨g9, rfl, rfl⟩
    refine O.l0 (Lo.storeL 0 ((Kn.parse s).1) rfl rfl rfl (by exact Tryd.sizeOf50) (show ((Kn.parse s).1 : List Int).length = 7 from (by first | rfl | (exact Kn.parse_len s))) (by first | rfl | (rw [List.length_map]; exact Kn.parse_len s))) ?_
    rintro _ _ rfl
    refine O.p (Pu.assign rfl) rfl ?_
    refine O.nil ?_
    refine J.seq ?_
    refine J.drawHead 16 Tryd.mixed (by kernel_rfl) ?_
    refine Hd.q (Qt.ld rfl (Cel.var 2 rfl) (o := 0) (off := 0) rfl (Cut.agg [.int .i64 a, .int .i64 b, .int .i64 c, .int .i64 d, .int .i64 e, .int .i64 f, .int .i64 g] Tryd.isAgg50 Tryd.sizeOf50 rfl rfl)) rfl ?_
    refine Hd.call (vs := [.agg #[.int .i64 a, .int .i64 b, .int .i64 c, .int .i64 d, .int .i64 e, .int .i64 f, .int .i64 g]]) (caps := []) (by exact Tryd.call55) rfl rfl (kn_Text a b c d e f g (by assumption)) (fun _ _ h => h) (RoOk.ro 0 rfl [] rfl (RoOk.ro 1 rfl [] rfl RoOk.nil)) rfl ?_
    refine Hd.q (Qt.ld rfl (Cel.var 2 rfl) (o := 0) (off := 0) rfl (Cut.agg [.int .i64 a, .int .i64 b, .int .i64 c, .int .i64 d, .int .i64 e, .int .i64 f, .int .i64 g] Tryd.isAgg50 Tryd.sizeOf50 rfl rfl)) rfl ?_
    refine Hd.call (vs := [.agg #[.int .i64 a, .int .i64 b, .int .i64 c, .int .i64 d, .int .i64 e, .int .i64 f, .int .i64 g]]) (caps := []) (by exact Tryd.call56) rfl rfl (r18_Text a b c d e f g (by assumption)) (fun _ _ h => h) RoOk.nil rfl ?_
    refine Hd.p (Pu.sEql rfl rfl) rfl ?_
    refine Hd.p (Pu.move rfl) rfl ?_
    refine Hd.gq (t := 28) rfl rfl (by simp) rfl (Qt.ld rfl (Cel.var 1 rfl) (o := 0) (off := 0) rfl (Cut.aggL Tryd.isAgg50 Tryd.sizeOf50 (by exact Kn.parse_len s))) rfl ?_
    refine Hd.gq (t := 28) rfl rfl (by simp) rfl (Qt.ld rfl (Cel.var 0 rfl) (o := 0) (off := 0) rfl (Cut.aggL Tryd.isAgg50 Tryd.sizeOf50 (by exact Kn.parse_len s))) rfl ?_
    refine Hd.gq (t := 28) rfl rfl (by simp) rfl (Pu.qt (Pu.eqlL ((Kn.parse s).1) ((Kn.parse s).1) Tryd.underlying50 Tryd.stoodInHeld50 Tryd.eqGuardType50 (fint50 Tryd.underlying50) (show ((Kn.parse s).1 : List Int).length = 7 from (by first | rfl | (exact Kn.parse_len s))) (show ((Kn.parse s).1 : List Int).length = 7 from (by first | rfl | (exact Kn.parse_len s))) rfl rfl)) rfl ?_
    refine Hd.p (Pu.pickT rfl (by simp) rfl) rfl ?_
    refine Hd.p (Pu.move rfl) rfl ?_
    refine Hd.gq (t := 33) rfl rfl (by simp) rfl (Pu.qt (Pu.move rfl)) rfl ?_
    refine Hd.gq (t := 33) rfl rfl (by simp) rfl (Pu.qt (Pu.move rfl)) rfl ?_
    refine Hd.gq (t := 33) rfl rfl (by simp) rfl (Pu.qt (Pu.eql rfl rfl)) rfl ?_
    refine Hd.p (Pu.pickT rfl (by simp) rfl) rfl ?_
    refine Hd.p (Pu.move rfl) rfl ?_
    refine Hd.nil ?_
    refine O.gl (t := 38) rfl rfl (by simp) rfl (Lo.call [] (by exact Tryd.call52) rfl law18_awake [] [0, 1, 2] (by decide) rfl _ rfl (RoOk.ro 0 rfl [] rfl (RoOk.ro 1 rfl [] rfl RoOk.nil))) rfl ?_
    rintro _ _ ⟨_, ⟨rfl, rfl⟩, rfl⟩
    refine O.p (Pu.pickT rfl (by simp) rfl) rfl ?_
    refine O.p (Pu.assign rfl) rfl ?_
    refine O.nil ?_
    exact J.ret (Fin.ret (rs := [.tmp 4]) rfl [_] ⟨rfl, trivial⟩ [] (by decide) [] rfl ⟨rfl, rfl⟩)

set_option maxRecDepth 100000 in
theorem law18_knobBack (a b c d e f g : Int) (remark : List UInt8) (hI : Kn.I64s [a, b, c, d, e, f, g]) : Tri Tryd.prog 10 #[.agg #[.int .i64 a, .int .i64 b, .int .i64 c, .int .i64 d, .int .i64 e, .int .i64 f, .int .i64 g], str remark] [libW, var 1 (Kn.names.map vS) 131] [] (fun v L' => v = .bool true ∧ L' = []) := by
  refine Tri.enter (args := [.agg #[.int .i64 a, .int .i64 b, .int .i64 c, .int .i64 d, .int .i64 e, .int .i64 f, .int .i64 g], str remark]) (body := _) 48 Tryd.func10 rfl Tryd.ntmps10 rfl ?_
  intro w0
  refine J.seq ?_
  refine J.region ?_
  refine O.l (Lo.box [.int .i64 a, .int .i64 b, .int .i64 c, .int .i64 d, .int .i64 e, .int .i64 f, .int .i64 g] rfl rfl) rfl ?_
  rintro _ _ ⟨g1, rfl, rfl⟩
  refine O.p (Pu.assign rfl) rfl ?_
  refine O.nil ?_
  refine J.seq ?_
  refine J.seq ?_
  refine J.region ?_
  refine O.p (Pu.move rfl) rfl ?_
  refine O.p (Pu.sLen Tryd.runUnderlying9 rfl) rfl ?_
  refine O.p (Pu.gtr rfl rfl) rfl ?_
  refine O.nil ?_
  refine J.cond rfl (fun h2 => ?_) (fun h2 => ?_)
  ·
    have p3 := of_decide_eq_true h2
    refine J.seq ?_
    refine J.region ?_
    refine O.l (Lo.call [] (by exact Tryd.call52) rfl law18_awake [] [0] (by decide) rfl _ rfl (RoOk.ro 0 rfl [] rfl (RoOk.ro 1 rfl [] rfl RoOk.nil))) rfl ?_
    rintro _ _ ⟨_, ⟨rfl, rfl⟩, rfl⟩
    refine O.p (Pu.assign rfl) rfl ?_
    refine O.nil ?_
    exact J.ret (Fin.ret (rs := [.tmp 4]) rfl [_] ⟨rfl, trivial⟩ [] (by decide) [] rfl ⟨rfl, rfl⟩)
  ·
    have p5 := of_decide_eq_false h2
    refine J.skip ?_
    refine J.seq ?_
    refine J.region ?_
    refine O.q (Qt.ld rfl (Cel.var 0 rfl) (o := 0) (off := 0) rfl (Cut.agg [.int .i64 a, .int .i64 b, .int .i64 c, .int .i64 d, .int .i64 e, .int .i64 f, .int .i64 g] Tryd.isAgg50 Tryd.sizeOf50 rfl rfl)) rfl ?_
    refine O.l (Lo.call [.agg #[.int .i64 a, .int .i64 b, .int .i64 c, .int .i64 d, .int .i64 e, .int .i64 f, .int .i64 g]] (by exact Tryd.call55) rfl (kn_Text a b c d e f g (by assumption)) [] [0] (by decide) rfl _ rfl (RoOk.ro 0 rfl [] rfl (RoOk.ro 1 rfl [] rfl RoOk.nil))) rfl ?_
    rintro _ _ ⟨_, ⟨rfl, rfl⟩, rfl⟩
    refine O.l (Lo.call [str (Kn.text [a, b, c, d, e, f, g])] (by exact Tryd.call53) rfl (kn_Parse_eq (Kn.text [a, b, c, d, e, f, g]) [a, b, c, d, e, f, g] 0 (by have h_ := Kn.text_len (l := [a, b, c, d, e, f, g]) rfl hI; first | omega | (simp only [List.length_append, List.length_cons, List.length_nil]; omega)) (Kn.back rfl hI)) [] [0] (by decide) rfl _ rfl (RoOk.ro 0 rfl [] rfl (RoOk.ro 1 rfl [] rfl RoOk.nil))) rfl ?_
    rintro _ _ ⟨_, ⟨rfl, rfl⟩, rfl⟩
    refine O.p (Pu.move rfl) rfl ?_
    refine O.p (Pu.extract rfl rfl) rfl ?_
    refine O.p (Pu.extract rfl rfl) rfl ?_
    refine O.l (Lo.alloc [.int .i64 0, .int .i64 0, .int .i64 0, .int .i64 0, .int .i64 0, .int .i64 0, .int .i64 0] (by exact Tryd.zeroValue50) rfl) rfl ?_
    rintro _ _ ⟨g8, rfl, rfl⟩
    refine O.l0 (Lo.storeL 0 ([a, b, c, d, e, f, g]) rfl rfl rfl (by exact Tryd.sizeOf50) (show ([a, b, c, d, e, f, g] : List Int).length = 7 from (by first | rfl | (rfl))) (by first | rfl | (rw [List.length_map]; rfl))) ?_
    rintro _ _ rfl
    refine O.p (Pu.assign rfl) rfl ?_
    refine O.nil ?_
    refine J.seq ?_
    refine J.region ?_
    refine O.q (Qt.ld rfl (Cel.var 1 rfl) (o := 0) (off := 0) rfl (Cut.agg [.int .i64 a, .int .i64 b, .int .i64 c, .int .i64 d, .int .i64 e, .int .i64 f, .int .i64 g] Tryd.isAgg50 Tryd.sizeOf50 rfl rfl)) rfl ?_
    refine O.l (Lo.call [.agg #[.int .i64 a, .int .i64 b, .int .i64 c, .int .i64 d, .int .i64 e, .int .i64 f, .int .i64 g]] (by exact Tryd.call55) rfl (kn_Text a b c d e f g (by assumption)) [] [0, 1] (by decide) rfl _ rfl (RoOk.ro 0 rfl [] rfl (RoOk.ro 1 rfl [] rfl RoOk.nil))) rfl ?_
    rintro _ _ ⟨_, ⟨rfl, rfl⟩, rfl⟩
    refine O.p (Pu.sAdd rfl rfl (by have h_ := Kn.text_len (l := [a, b, c, d, e, f, g]) rfl hI; simp only [List.length_append, List.length_cons, List.length_nil]; omega)) rfl ?_
    refine O.p (Pu.sAdd rfl rfl (by have h_ := Kn.text_len (l := [a, b, c, d, e, f, g]) rfl hI; simp only [List.length_append, List.length_cons, List.length_nil]; omega)) rfl ?_
    refine O.p (Pu.move rfl) rfl ?_
    refine O.p (Pu.sAdd rfl rfl (by have h_ := Kn.text_len (l := [a, b, c, d, e, f, g]) rfl hI; simp only [List.length_append, List.length_cons, List.length_nil]; omega)) rfl ?_
    refine O.l (Lo.call [str (((([32, 9]) ++ (Kn.text [a, b, c, d, e, f, g])) ++ ([32, 35])) ++ remark)] (by exact Tryd.call53) rfl (kn_Parse_eq (((([32, 9]) ++ (Kn.text [a, b, c, d, e, f, g])) ++ ([32, 35])) ++ remark) [a, b, c, d, e, f, g] 0 (by have h_ := Kn.text_len (l := [a, b, c, d, e, f, g]) rfl hI; first | omega | (simp only [List.length_append, List.length_cons, List.length_nil]; omega)) (Kn.back_more rfl hI remark)) [] [0, 1] (by decide) rfl _ rfl (RoOk.ro 0 rfl [] rfl (RoOk.ro 1 rfl [] rfl RoOk.nil))) rfl ?_
    rintro _ _ ⟨_, ⟨rfl, rfl⟩, rfl⟩
    refine O.p (Pu.move rfl) rfl ?_
    refine O.p (Pu.extract rfl rfl) rfl ?_
    refine O.p (Pu.extract rfl rfl) rfl ?_
    refine O.l (Lo.alloc [.int .i64 0, .int .i64 0, .int .i64 0, .int .i64 0, .int .i64 0, .int .i64 0, .int .i64 0] (by exact Tryd.zeroValue50) rfl) rfl ?_
    rintro _ _ ⟨g11, rfl, rfl⟩
    refine O.l0 (Lo.storeL 0 ([a, b, c, d, e, f, g]) rfl rfl rfl (by exact Tryd.sizeOf50) (show ([a, b, c, d, e, f, g] : List Int).length = 7 from (by first | rfl | (rfl))) (by first | rfl | (rw [List.length_map]; rfl))) ?_
    rintro _ _ rfl
    refine O.p (Pu.assign rfl) rfl ?_
    refine O.nil ?_
    refine J.seq ?_
    refine J.region ?_
    refine O.q (Qt.ld rfl (Cel.var 1 rfl) (o := 0) (off := 0) rfl (Cut.aggL Tryd.isAgg50 Tryd.sizeOf50 (by rfl))) rfl ?_
    refine O.q (Qt.ld rfl (Cel.var 2 rfl) (o := 0) (off := 0) rfl (Cut.agg [.int .i64 a, .int .i64 b, .int .i64 c, .int .i64 d, .int .i64 e, .int .i64 f, .int .i64 g] Tryd.isAgg50 Tryd.sizeOf50 rfl rfl)) rfl ?_
    refine O.p (Pu.eqlL ([a, b, c, d, e, f, g]) ([a, b, c, d, e, f, g]) Tryd.underlying50 Tryd.stoodInHeld50 Tryd.eqGuardType50 (fint50 Tryd.underlying50) (show ([a, b, c, d, e, f, g] : List Int).length = 7 from (by first | rfl | (rfl))) (show ([a, b, c, d, e, f, g] : List Int).length = 7 from (by first | rfl | (rfl))) rfl rfl) rfl ?_
    refine O.p (Pu.move rfl) rfl ?_
    refine O.gq (t := 32) rfl rfl (by simp) rfl (Pu.qt (Pu.move rfl)) rfl ?_
    refine O.gq (t := 32) rfl rfl (by simp) rfl (Pu.qt (Pu.eql rfl rfl)) rfl ?_
    refine O.p (Pu.pickT rfl (by simp) rfl) rfl ?_
    refine O.p (Pu.move rfl) rfl ?_
    refine O.gq (t := 36) rfl rfl rfl rfl (Qt.ld rfl (Cel.var 0 rfl) (o := 0) (off := 0) rfl (Cut.aggL Tryd.isAgg50 Tryd.sizeOf50 (by rfl))) rfl ?_
    refine O.gq (t := 36) rfl rfl rfl rfl (Qt.ld rfl (Cel.var 2 rfl) (o := 0) (off := 0) rfl (Cut.agg [.int .i64 a, .int .i64 b, .int .i64 c, .int .i64 d, .int .i64 e, .int .i64 f, .int .i64 g] Tryd.isAgg50 Tryd.sizeOf50 rfl rfl)) rfl ?_
    refine O.gq (t := 36) rfl rfl rfl rfl (Pu.qt (Pu.eqlL ([a, b, c, d, e, f, g]) ([a, b, c, d, e, f, g]) Tryd.underlying50 Tryd.stoodInHeld50 Tryd.eqGuardType50 (fint50 Tryd.underlying50) (show ([a, b, c, d, e, f, g] : List Int).length = 7 from (by first | rfl | (rfl))) (show ([a, b, c, d, e, f, g] : List Int).length = 7 from (by first | rfl | (rfl))) rfl rfl)) rfl ?_
    refine O.p (Pu.pickT rfl rfl rfl) rfl ?_
    refine O.p (Pu.move rfl) rfl ?_
    refine O.gq (t := 41) rfl rfl (by simp) rfl (Pu.qt (Pu.move rfl)) rfl ?_
    refine O.gq (t := 41) rfl rfl (by simp) rfl (Pu.qt (Pu.eql rfl rfl)) rfl ?_
    refine O.p (Pu.pickT rfl (by simp) rfl) rfl ?_
    refine O.p (Pu.move rfl) rfl ?_
    refine O.gl (t := 45) rfl rfl rfl rfl (Lo.call [] (by exact Tryd.call52) rfl law18_awake [] [0, 1, 2] (by decide) rfl _ rfl (RoOk.ro 0 rfl [] rfl (RoOk.ro 1 rfl [] rfl RoOk.nil))) rfl ?_
    rintro _ _ ⟨_, ⟨rfl, rfl⟩, rfl⟩
    refine O.p (Pu.pickT rfl rfl rfl) rfl ?_
    refine O.p (Pu.assign rfl) rfl ?_
    refine O.nil ?_
    exact J.ret (Fin.ret (rs := [.tmp 4]) rfl [_] ⟨rfl, trivial⟩ [] (by decide) [] rfl ⟨rfl, rfl⟩)

set_option maxRecDepth 100000 in
set_option maxHeartbeats 4000000 in
theorem law18_knobChecks (a b c d e f g : Int) (m : Int) (name : List UInt8) (v1 : Int) : Tri Tryd.prog 11 #[.agg #[.int .i64 a, .int .i64 b, .int .i64 c, .int .i64 d, .int .i64 e, .int .i64 f, .int .i64 g], .int .i64 m, .agg #[str name, .int .i64 v1]] [libW, var 1 (Kn.names.map vS) 131] [] (fun v L' => v = .bool true ∧ L' = []) := by
  refine Tri.enter (args := [.agg #[.int .i64 a, .int .i64 b, .int .i64 c, .int .i64 d, .int .i64 e, .int .i64 f, .int .i64 g], .int .i64 m, .agg #[str name, .int .i64 v1]]) (body := _) 105 Tryd.func11 rfl Tryd.ntmps11 rfl ?_
  intro w0
  refine J.seq ?_
  refine J.region ?_
  refine O.l (Lo.box [.int .i64 a, .int .i64 b, .int .i64 c, .int .i64 d, .int .i64 e, .int .i64 f, .int .i64 g] rfl rfl) rfl ?_
  rintro _ _ ⟨g1, rfl, rfl⟩
  refine O.l (Lo.box [str name, .int .i64 v1] rfl rfl) rfl ?_
  rintro _ _ ⟨g2, rfl, rfl⟩
  refine O.p (Pu.assign rfl) rfl ?_
  refine O.nil ?_
  refine J.seq ?_
  refine J.seq ?_
  refine J.region ?_
  refine O.p (Pu.fieldAddr (off' := 0) Tryd.runUnderlying84 rfl Tryd.sizeOf9 rfl rfl rfl) rfl ?_
  refine O.q (Qt.ld rfl (Cel.var 0 rfl) (o := 0) (off := 0) rfl (Cut.one Tryd.isAgg9 rfl)) rfl ?_
  refine O.p (Pu.sLen Tryd.runUnderlying9 rfl) rfl ?_
  refine O.p (Pu.gtr rfl rfl) rfl ?_
  refine O.nil ?_
  refine J.cond rfl (fun h3 => ?_) (fun h3 => ?_)
  ·
    have p4 := of_decide_eq_true h3
    refine J.seq ?_
    refine J.region ?_
    refine O.l (Lo.call [] (by exact Tryd.call52) rfl law18_awake [] [0, 1] (by decide) rfl _ rfl (RoOk.ro 0 rfl [] rfl (RoOk.ro 1 rfl [] rfl RoOk.nil))) rfl ?_
    rintro _ _ ⟨_, ⟨rfl, rfl⟩, rfl⟩
    refine O.p (Pu.assign rfl) rfl ?_
    refine O.nil ?_
    exact J.ret (Fin.ret (rs := [.tmp 6]) rfl [_] ⟨rfl, trivial⟩ [] (by decide) [] rfl ⟨rfl, rfl⟩)
  ·
    have p6 := of_decide_eq_false h3
    refine J.skip ?_
    refine J.seq ?_
    refine J.seq ?_
    refine J.drawMix [(0, false), (1, false), (2, false), (3, false), (4, false), (5, false), (6, false), (7, false), (8, false), (10, false), (9, true), (11, true), (12, false), (13, false), (14, false), (15, false), (16, true), (17, true), (18, false), (19, false), (20, false), (21, false), (22, false), (23, false), (24, true), (25, false), (26, false), (27, false), (28, false), (29, false), (30, false), (31, false), (32, false), (33, false), (34, false), (35, false), (36, false), (37, false), (38, false), (39, false), (40, false), (41, false)] [1] [var g1 [.int .i64 a, .int .i64 b, .int .i64 c, .int .i64 d, .int .i64 e, .int .i64 f, .int .i64 g] 50] Tryd.mixed (by kernel_rfl) (by decide) rfl ?_
    refine Mx.q rfl (Qt.ld rfl (Cel.var 0 rfl) (o := 0) (off := 0) rfl (Cut.agg [.int .i64 a, .int .i64 b, .int .i64 c, .int .i64 d, .int .i64 e, .int .i64 f, .int .i64 g] Tryd.isAgg50 Tryd.sizeOf50 rfl rfl)) rfl ?_
    refine Mx.p rfl (Pu.move rfl) rfl ?_
    refine Mx.call (vs := [.agg #[.int .i64 a, .int .i64 b, .int .i64 c, .int .i64 d, .int .i64 e, .int .i64 f, .int .i64 g], .int .i64 m]) (caps := []) rfl (by exact Tryd.call57) rfl rfl (kn_Check a b c d e f g m) (fun _ _ h => h) RoOk.nil rfl ?_
    refine Mx.q rfl (Qt.ld rfl (Cel.var 0 rfl) (o := 0) (off := 0) rfl (Cut.agg [.int .i64 a, .int .i64 b, .int .i64 c, .int .i64 d, .int .i64 e, .int .i64 f, .int .i64 g] Tryd.isAgg50 Tryd.sizeOf50 rfl rfl)) rfl ?_
    refine Mx.p rfl (Pu.move rfl) rfl ?_
    refine Mx.call (vs := [.agg #[.int .i64 a, .int .i64 b, .int .i64 c, .int .i64 d, .int .i64 e, .int .i64 f, .int .i64 g], .int .i64 m]) (caps := []) rfl (by exact Tryd.call58) rfl rfl (r18_Check a b c d e f g m) (fun _ _ h => h) RoOk.nil rfl ?_
    refine Mx.p rfl (Pu.neq rfl rfl) rfl ?_
    refine Mx.p rfl (Pu.move rfl) rfl ?_
    refine Mx.gq (t := 24) rfl rfl rfl (by simp) rfl (Qt.ld rfl (Cel.var 0 rfl) (o := 0) (off := 0) rfl (Cut.agg [.int .i64 a, .int .i64 b, .int .i64 c, .int .i64 d, .int .i64 e, .int .i64 f, .int .i64 g] Tryd.isAgg50 Tryd.sizeOf50 rfl rfl)) rfl ?_
    refine Mx.gq (t := 24) rfl rfl rfl (by simp) rfl (Qt.ld rfl (Cel.var 0 rfl) (o := 0) (off := 0) rfl (Cut.agg [.int .i64 a, .int .i64 b, .int .i64 c, .int .i64 d, .int .i64 e, .int .i64 f, .int .i64 g] Tryd.isAgg50 Tryd.sizeOf50 rfl rfl)) rfl ?_
    refine Mx.gl (t := 24) rfl rfl rfl (by simp) rfl (Lo.call [.agg #[.int .i64 a, .int .i64 b, .int .i64 c, .int .i64 d, .int .i64 e, .int .i64 f, .int .i64 g]] (by exact Tryd.call59) rfl (kn_Values a b c d e f g) [] [0, 1] (by decide) rfl _ rfl RoOk.nil) rfl ?_
    rintro v7 _ ⟨_, rfl, rfl⟩
    refine MxK.go [0, 2] [1] [row v7 3 1 (([a, b, c, d, e, f, g]).map encZ), var g1 [.int .i64 a, .int .i64 b, .int .i64 c, .int .i64 d, .int .i64 e, .int .i64 f, .int .i64 g] 50] (by decide) rfl (by decide) rfl ?_
    refine Mx.gl (t := 24) rfl rfl rfl (by simp) rfl (Lo.call [.agg #[.int .i64 a, .int .i64 b, .int .i64 c, .int .i64 d, .int .i64 e, .int .i64 f, .int .i64 g]] (by exact Tryd.call60) rfl (r18_Values a b c d e f g) [] [0, 1, 2] (by decide) rfl _ rfl RoOk.nil) rfl ?_
    rintro v8 _ ⟨_, rfl, rfl⟩
    refine MxK.go [0, 1, 3] [1, 2] [row v8 3 1 (([a, b, c, d, e, f, g]).map encZ), row v7 3 1 (([a, b, c, d, e, f, g]).map encZ), var g1 [.int .i64 a, .int .i64 b, .int .i64 c, .int .i64 d, .int .i64 e, .int .i64 f, .int .i64 g] 50] (by decide) rfl (by decide) rfl ?_
    refine Mx.gcall (vs := [v7, v8]) (caps := []) (t := 24) rfl rfl rfl (by simp) rfl (by exact Tryd.call25) rfl rfl (r01_Same v7 v8 ([a, b, c, d, e, f, g]) (by first | decide | (simp only [List.length_cons, List.length_nil]; omega))) (fun _ _ h => h) (RoOk.of 1 rfl row_rd [] (by decide) rfl (RoOk.of 0 rfl row_rd [] (by decide) rfl RoOk.nil)) rfl ?_
    refine Mx.gq (t := 24) rfl rfl rfl (by simp) rfl (Pu.qt (Pu.not rfl)) rfl ?_
    refine Mx.p rfl (Pu.pickF rfl (by simp) rfl) rfl ?_
    refine Mx.p rfl (Pu.move rfl) rfl ?_
    refine Mx.gl (t := 32) rfl rfl rfl rfl rfl (Lo.call [] (by exact Tryd.call61) rfl kn_Names [] [0, 1, 2, 3] (by decide) rfl _ rfl (RoOk.ro 1 rfl [] rfl RoOk.nil)) rfl ?_
    rintro v9 _ ⟨_, rfl, rfl⟩
    refine MxK.go [0, 1, 2, 4] [1, 2, 3] [row v9 9 1 (Kn.names.map encS), row v8 3 1 (([a, b, c, d, e, f, g]).map encZ), row v7 3 1 (([a, b, c, d, e, f, g]).map encZ), var g1 [.int .i64 a, .int .i64 b, .int .i64 c, .int .i64 d, .int .i64 e, .int .i64 f, .int .i64 g] 50] (by decide) rfl (by decide) rfl ?_
    refine Mx.gl (t := 32) rfl rfl rfl rfl rfl (Lo.call [] (by exact Tryd.call62) rfl r18_Names [] [0, 1, 2, 3, 4] (by decide) rfl _ rfl RoOk.nil) rfl ?_
    rintro v10 _ ⟨_, rfl, rfl⟩
    refine MxK.go [0, 1, 2, 3, 5] [1, 2, 3, 4] [row v10 9 1 (Kn.names.map encS), row v9 9 1 (Kn.names.map encS), row v8 3 1 (([a, b, c, d, e, f, g]).map encZ), row v7 3 1 (([a, b, c, d, e, f, g]).map encZ), var g1 [.int .i64 a, .int .i64 b, .int .i64 c, .int .i64 d, .int .i64 e, .int .i64 f, .int .i64 g] 50] (by decide) rfl (by decide) rfl ?_
    refine Mx.gcall (vs := [v9, v10]) (caps := []) (t := 32) rfl rfl rfl rfl rfl (by exact Tryd.call39) rfl rfl (r06_Same v9 v10 Kn.names (by first | decide | (simp only [List.length_cons, List.length_nil]; omega))) (fun _ _ h => h) (RoOk.of 1 rfl row_rd [] (by decide) rfl (RoOk.of 0 rfl row_rd [] (by decide) rfl RoOk.nil)) rfl ?_
    refine Mx.gq (t := 32) rfl rfl rfl rfl rfl (Pu.qt (Pu.not rfl)) rfl ?_
    refine Mx.p rfl (Pu.pickF rfl rfl rfl) rfl ?_
    refine Mx.p rfl (Pu.move rfl) rfl ?_
    refine Mx.gq (t := 38) rfl rfl rfl rfl rfl (Pu.qt (Pu.move rfl)) rfl ?_
    refine Mx.gcall (vs := [.int .i64 m]) (caps := []) (t := 38) rfl rfl rfl rfl rfl (by exact Tryd.call63) rfl rfl (kn_Usual m) (fun _ _ h => h) RoOk.nil rfl ?_
    refine Mx.gl (t := 38) rfl rfl rfl rfl rfl (Lo.buildM (s := 1) encZ [1, 4, 10, 5, 1, 3, 2] [(0, .int .i64 1), (1, .int .i64 4), (2, .int .i64 10), (3, .int .i64 5), (4, .int .i64 1), (5, .int .i64 3), (6, .int .i64 2)] (by exact Tryd.runUnderlying40) (by exact Tryd.sizeOf3) (by exact Tryd.zeroValue3) rfl rfl rfl (by kernel_rfl) rfl rfl) rfl ?_
    rintro V11 _ rfl
    refine MxK.go [0, 1, 2, 3, 4, 6] [1, 2, 3, 4, 5] [row V11 3 1 (([1, 4, 10, 5, 1, 3, 2]).map encZ), row v10 9 1 (Kn.names.map encS), row v9 9 1 (Kn.names.map encS), row v8 3 1 (([a, b, c, d, e, f, g]).map encZ), row v7 3 1 (([a, b, c, d, e, f, g]).map encZ), var g1 [.int .i64 a, .int .i64 b, .int .i64 c, .int .i64 d, .int .i64 e, .int .i64 f, .int .i64 g] 50] (by decide) rfl (by decide) rfl ?_
    refine Mx.gcall (vs := [V11]) (caps := []) (t := 38) rfl rfl rfl rfl rfl (by exact Tryd.call64) rfl rfl (r18_Of V11 ([1, 4, 10, 5, 1, 3, 2]) (by first | rfl | (first | rfl | (rw [List.length_set]; rfl)))) (fun _ _ h => h) (RoOk.of 0 rfl row_rd [] (by decide) rfl RoOk.nil) rfl ?_
    refine Mx.gq (t := 38) rfl rfl rfl rfl rfl (Pu.qt (Pu.neqL ([1, 4, 10, 5, 1, 3, 2]) ([1, 4, 10, 5, 1, 3, 2]) Tryd.underlying50 Tryd.stoodInHeld50 Tryd.eqGuardType50 (fint50 Tryd.underlying50) (show ([1, 4, 10, 5, 1, 3, 2] : List Int).length = 7 from (by first | rfl | (first | rfl | exact Kn.set_len rfl | (rw [List.length_set]; rfl)))) (show ([1, 4, 10, 5, 1, 3, 2] : List Int).length = 7 from (by first | rfl | (first | rfl | exact Kn.set_len rfl | (rw [List.length_set]; rfl)))) rfl rfl)) rfl ?_
    refine Mx.p rfl (Pu.pickF rfl rfl rfl) rfl ?_
    refine Mx.p rfl (Pu.move rfl) rfl ?_
    refine Mx.gq (t := 45) rfl rfl rfl (not_of_true (by simp)) rfl (Pu.qt (Pu.move rfl)) rfl ?_
    refine Mx.gcall (vs := [.int .i64 m]) (caps := []) (t := 45) rfl rfl rfl (not_of_true (by simp)) rfl (by exact Tryd.call63) rfl rfl (kn_Usual m) (fun _ _ h => h) RoOk.nil rfl ?_
    refine Mx.gq (t := 45) rfl rfl rfl (not_of_true (by simp)) rfl (Pu.qt (Pu.move rfl)) rfl ?_
    refine Mx.gcall (vs := [.agg #[.int .i64 1, .int .i64 4, .int .i64 10, .int .i64 5, .int .i64 1, .int .i64 3, .int .i64 2], .int .i64 m]) (caps := []) (t := 45) rfl rfl rfl (not_of_true (by simp)) rfl (by exact Tryd.call57) rfl rfl (kn_Check 1 4 10 5 1 3 2 m) (fun _ _ h => h) RoOk.nil rfl ?_
    refine Mx.gq (t := 45) rfl rfl rfl (not_of_true (by simp)) rfl (Pu.qt (Pu.eql rfl rfl)) rfl ?_
    refine Mx.gq (t := 45) rfl rfl rfl (not_of_true (by simp)) rfl (Pu.qt (Pu.move rfl)) rfl ?_
    refine Mx.gq (t := 45) rfl rfl rfl (not_of_true (by simp)) rfl (Pu.qt (Pu.geq rfl rfl)) rfl ?_
    refine Mx.gq (t := 45) rfl rfl rfl (not_of_true (by simp)) rfl (Pu.qt (Pu.move rfl)) rfl ?_
    refine by_bool (decide (1 ≤ m)) (fun h12 => ?_) (fun h12 => ?_)
    ·
      have p13 := of_decide_eq_true h12
      refine Mx.gq (t := 53) rfl rfl rfl h12 rfl (Pu.qt (Pu.move rfl)) rfl ?_
      refine Mx.gq (t := 53) rfl rfl rfl h12 rfl (Pu.qt (Pu.leq rfl rfl)) rfl ?_
      refine Mx.gq (t := 45) rfl rfl rfl (not_of_true (by simp)) rfl (Pu.qt (Pu.pickT rfl h12 rfl)) rfl ?_
      refine Mx.gq (t := 45) rfl rfl rfl (not_of_true (by simp)) rfl (Pu.qt (Pu.bneq Tryd.underlying4 rfl rfl)) rfl ?_
      refine Mx.p rfl (Pu.pickF rfl (not_of_true (by simp)) rfl) rfl ?_
      refine Mx.nil ?_
      refine J.condF rfl (by rw [Kn.usual_check]; simp [*]) ?_
      refine J.skip ?_
      refine J.seq ?_
      refine J.region ?_
      refine O.q (Qt.ld rfl (Cel.var 6 rfl) (o := 0) (off := 0) rfl (Cut.agg [.int .i64 a, .int .i64 b, .int .i64 c, .int .i64 d, .int .i64 e, .int .i64 f, .int .i64 g] Tryd.isAgg50 Tryd.sizeOf50 rfl rfl)) rfl ?_
      refine O.p (Pu.fieldAddr (off' := 0) Tryd.runUnderlying84 rfl Tryd.sizeOf9 rfl rfl rfl) rfl ?_
      refine O.q (Qt.ld rfl (Cel.var 5 rfl) (o := 0) (off := 0) rfl (Cut.one Tryd.isAgg9 rfl)) rfl ?_
      refine O.p (Pu.fieldAddr (off' := 1) Tryd.runUnderlying84 rfl Tryd.sizeOf3 rfl rfl rfl) rfl ?_
      refine O.q (Qt.ld rfl (Cel.var 5 rfl) (o := 0) (off := 1) rfl (Cut.one Tryd.isAgg3 rfl)) rfl ?_
      refine O.l (Lo.call [.agg #[.int .i64 a, .int .i64 b, .int .i64 c, .int .i64 d, .int .i64 e, .int .i64 f, .int .i64 g], str name, .int .i64 v1] (by exact Tryd.call65) rfl (kn_Set a b c d e f g name v1) [] [0, 1, 2, 3, 4, 5, 6] (by decide) rfl _ rfl (RoOk.ro 1 rfl [] rfl RoOk.nil)) rfl ?_
      rintro _ _ ⟨_, ⟨rfl, rfl⟩, rfl⟩
      refine O.p (Pu.move rfl) rfl ?_
      refine O.p (Pu.extract rfl rfl) rfl ?_
      refine O.p (Pu.extract rfl rfl) rfl ?_
      refine O.l (Lo.alloc [.int .i64 0, .int .i64 0, .int .i64 0, .int .i64 0, .int .i64 0, .int .i64 0, .int .i64 0] (by exact Tryd.zeroValue50) rfl) rfl ?_
      rintro _ _ ⟨g15, rfl, rfl⟩
      refine O.l0 (Lo.storeL 0 ((Kn.set [a, b, c, d, e, f, g] name v1).1) rfl rfl rfl (by exact Tryd.sizeOf50) (show ((Kn.set [a, b, c, d, e, f, g] name v1).1 : List Int).length = 7 from (by first | rfl | (first | rfl | exact Kn.set_len rfl | (rw [List.length_set]; rfl)))) (by first | rfl | (rw [List.length_map]; first | rfl | exact Kn.set_len rfl | (rw [List.length_set]; rfl)))) ?_
      rintro _ _ rfl
      refine O.p (Pu.assign rfl) rfl ?_
      refine O.nil ?_
      refine J.seq ?_
      refine J.drawMix [(0, false), (1, false), (2, true), (3, false), (4, false), (5, false), (6, false), (7, false), (8, false)] [6] [var g2 [str name, .int .i64 v1] 84] Tryd.mixed (by kernel_rfl) (by decide) rfl ?_
      refine Mx.p rfl (Pu.fieldAddr (off' := 0) Tryd.runUnderlying84 rfl Tryd.sizeOf9 rfl rfl rfl) rfl ?_
      refine Mx.q rfl (Qt.ld rfl (Cel.var 0 rfl) (o := 0) (off := 0) rfl (Cut.one Tryd.isAgg9 rfl)) rfl ?_
      refine Mx.l rfl (Lo.call [] (by exact Tryd.call62) rfl r18_Names [] [0, 1, 2, 3, 4, 5, 6, 7] (by decide) rfl _ rfl RoOk.nil) rfl ?_
      rintro v16 _ ⟨_, rfl, rfl⟩
      refine MxK.go [0, 7] [1] [row v16 9 1 (Kn.names.map encS), var g2 [str name, .int .i64 v1] 84] (by decide) rfl (by decide) rfl ?_
      refine Mx.call (vs := [str name, v16]) (caps := []) rfl (by exact Tryd.call66) rfl rfl (r06_Find name v16 Kn.names (by decide)) (fun _ _ h => h) (RoOk.of 0 rfl row_rd [] (by decide) rfl RoOk.nil) rfl ?_
      refine Mx.p rfl (Pu.move rfl) rfl ?_
      refine Mx.p rfl (Pu.extract rfl rfl) rfl ?_
      refine Mx.p rfl (Pu.extract rfl rfl) rfl ?_
      refine Mx.p rfl (Pu.assign rfl) rfl ?_
      refine Mx.p rfl (Pu.assign rfl) rfl ?_
      refine Mx.nil ?_
      refine J.seq ?_
      refine J.seq ?_
      refine J.region ?_
      refine O.p (Pu.move rfl) rfl ?_
      refine O.p (Pu.not rfl) rfl ?_
      refine O.nil ?_
      refine J.cond rfl (fun h17 => ?_) (fun h17 => ?_)
      ·
        have h18 : ((Wd.findR name Kn.names).2) = false := not_flip h17
        refine J.seq ?_
        refine J.region ?_
        refine O.p (Pu.move rfl) rfl ?_
        refine O.p (Pu.eql rfl rfl) rfl ?_
        refine O.p (Pu.move rfl) rfl ?_
        refine O.gq (t := 79) rfl rfl (decide_eq_true (by first | (rw [Kn.set_no (by assumption)]; done) | (rw [Kn.set_no (by assumption)]; rfl))) rfl (Qt.ld rfl (Cel.var 1 rfl) (o := 0) (off := 0) rfl (Cut.aggL Tryd.isAgg50 Tryd.sizeOf50 (by first | rfl | exact Kn.set_len rfl | (rw [List.length_set]; rfl)))) rfl ?_
        refine O.gq (t := 79) rfl rfl (decide_eq_true (by first | (rw [Kn.set_no (by assumption)]; done) | (rw [Kn.set_no (by assumption)]; rfl))) rfl (Pu.qt (Pu.build [] [.int .i64 0, .int .i64 0, .int .i64 0, .int .i64 0, .int .i64 0, .int .i64 0, .int .i64 0] #[(0, 1), (1, 1), (2, 1), (3, 1), (4, 1), (5, 1), (6, 1)] Tryd.runUnderlying50 Tryd.zeroValue50 (places50 Tryd.underlying50) rfl (by kernel_rfl))) rfl ?_
        refine O.gq (t := 79) rfl rfl (decide_eq_true (by first | (rw [Kn.set_no (by assumption)]; done) | (rw [Kn.set_no (by assumption)]; rfl))) rfl (Pu.qt (Pu.eqlL ((Kn.set [a, b, c, d, e, f, g] name v1).1) ([0, 0, 0, 0, 0, 0, 0]) Tryd.underlying50 Tryd.stoodInHeld50 Tryd.eqGuardType50 (fint50 Tryd.underlying50) (show ((Kn.set [a, b, c, d, e, f, g] name v1).1 : List Int).length = 7 from (by first | rfl | (first | rfl | exact Kn.set_len rfl | (rw [List.length_set]; rfl)))) (show ([0, 0, 0, 0, 0, 0, 0] : List Int).length = 7 from (by first | rfl | (first | rfl | exact Kn.set_len rfl | (rw [List.length_set]; rfl)))) rfl rfl)) rfl ?_
        refine O.p (Pu.pickT rfl (decide_eq_true (by first | (rw [Kn.set_no (by assumption)]; done) | (rw [Kn.set_no (by assumption)]; rfl))) rfl) rfl ?_
        refine O.p (Pu.move rfl) rfl ?_
        refine O.gl (t := 84) rfl rfl (decide_eq_true (by first | (rw [Kn.set_no (by assumption)]; done) | (rw [Kn.set_no (by assumption)]; rfl))) rfl (Lo.call [] (by exact Tryd.call52) rfl law18_awake [] [0, 1, 2, 3, 4, 5, 6, 7, 8] (by decide) rfl _ rfl (RoOk.ro 0 rfl [] rfl (RoOk.ro 1 rfl [] rfl RoOk.nil))) rfl ?_
        rintro _ _ ⟨_, ⟨rfl, rfl⟩, rfl⟩
        refine O.p (Pu.pickT rfl (decide_eq_true (by first | (rw [Kn.set_no (by assumption)]; done) | (rw [Kn.set_no (by assumption)]; rfl))) rfl) rfl ?_
        refine O.p (Pu.assign rfl) rfl ?_
        refine O.nil ?_
        exact J.ret (Fin.ret (rs := [.tmp 6]) rfl [_] ⟨rfl, trivial⟩ [] (by decide) [] rfl ⟨rfl, rfl⟩)
      ·
        have h20 : ((Wd.findR name Kn.names).2) = true := not_flip h17
        refine J.skip ?_
        refine J.seq ?_
        refine J.region ?_
        refine O.q (Qt.ld rfl (Cel.var 8 rfl) (o := 0) (off := 0) rfl (Cut.agg [.int .i64 a, .int .i64 b, .int .i64 c, .int .i64 d, .int .i64 e, .int .i64 f, .int .i64 g] Tryd.isAgg50 Tryd.sizeOf50 rfl rfl)) rfl ?_
        refine O.l (Lo.call [.agg #[.int .i64 a, .int .i64 b, .int .i64 c, .int .i64 d, .int .i64 e, .int .i64 f, .int .i64 g]] (by exact Tryd.call60) rfl (r18_Values a b c d e f g) [] [0, 1, 2, 3, 4, 5, 6, 7, 8] (by decide) rfl _ rfl RoOk.nil) rfl ?_
        rintro v21 _ ⟨_, rfl, rfl⟩
        refine O.p (Pu.assign rfl) rfl ?_
        refine O.nil ?_
        refine J.seq ?_
        refine J.region ?_
        refine O.p (Pu.move rfl) rfl ?_
        refine O.p (Pu.move rfl) rfl ?_
        refine O.p (Pu.fieldAddr (off' := 1) Tryd.runUnderlying84 rfl Tryd.sizeOf3 rfl rfl rfl) rfl ?_
        refine O.q (Qt.ld rfl (Cel.var 8 rfl) (o := 0) (off := 1) rfl (Cut.one Tryd.isAgg3 rfl)) rfl ?_
        obtain ⟨e22, he22⟩ : ∃ x_, ([a, b, c, d, e, f, g])[((Wd.findR name Kn.names).1).toNat]? = some x_ := ⟨_, List.getElem?_eq_getElem (by first | omega | (have hb_ := Kn.find_bnd (by assumption); first | omega | (simp only [List.length_cons, List.length_nil]; omega)))⟩
        refine O.q (Qt.idxM Tryd.runUnderlying40 Tryd.sizeOf3 rfl (Src.row 0 rfl) rfl (by first | omega | (have hb_ := Kn.find_bnd (by assumption); first | omega | (simp only [List.length_cons, List.length_nil]; omega))) (by first | omega | (have hb_ := Kn.find_bnd (by assumption); first | omega | (simp only [List.length_cons, List.length_nil]; omega)))) rfl ?_
        refine O.l0 (Lo.storeM 0 (j := ((Wd.findR name Kn.names).1).toNat) (off := 0) (vs := [.int .i64 v1]) (e := [.int .i64 e22]) v1 rfl rfl rfl rfl (by omega) he22 rfl (by exact Tryd.sizeOf3) rfl rfl rfl rfl rfl) ?_
        rintro _ _ rfl
        have hs23 : (([a, b, c, d, e, f, g]).set ((Wd.findR name Kn.names).1).toNat v1)[((Wd.findR name Kn.names).1).toNat]? = some v1 := List.getElem?_set_self (List.getElem?_eq_some_iff.1 he22).1
        refine O.nil ?_
        refine J.seq ?_
        refine J.drawMix [(0, false), (1, false), (2, false), (3, false), (4, false), (5, false), (6, false), (7, false), (8, false), (9, false), (10, false), (11, false)] [0, 2] [row v21 3 1 ((([a, b, c, d, e, f, g]).set ((Wd.findR name Kn.names).1).toNat v1).map encZ), var g15 (((Kn.set [a, b, c, d, e, f, g] name v1).1).map vI) 50] Tryd.mixed (by kernel_rfl) (by decide) rfl ?_
        refine Mx.p rfl (Pu.move rfl) rfl ?_
        refine Mx.p rfl (Pu.eql rfl rfl) rfl ?_
        refine Mx.p rfl (Pu.move rfl) rfl ?_
        refine Mx.gq (t := 96) rfl rfl rfl (decide_eq_true (by first | (rw [Kn.set_in (by assumption)]; done) | (rw [Kn.set_in (by assumption)]; rfl))) rfl (Qt.ld rfl (Cel.var 1 rfl) (o := 0) (off := 0) rfl (Cut.aggL Tryd.isAgg50 Tryd.sizeOf50 (by first | rfl | exact Kn.set_len rfl | (rw [List.length_set]; rfl)))) rfl ?_
        refine Mx.gq (t := 96) rfl rfl rfl (decide_eq_true (by first | (rw [Kn.set_in (by assumption)]; done) | (rw [Kn.set_in (by assumption)]; rfl))) rfl (Pu.qt (Pu.move rfl)) rfl ?_
        refine Mx.gcall (vs := [v21]) (caps := []) (t := 96) rfl rfl rfl (decide_eq_true (by first | (rw [Kn.set_in (by assumption)]; done) | (rw [Kn.set_in (by assumption)]; rfl))) rfl (by exact Tryd.call64) rfl rfl (r18_Of v21 (([a, b, c, d, e, f, g]).set ((Wd.findR name Kn.names).1).toNat v1) (by first | rfl | (first | rfl | (rw [List.length_set]; rfl)))) (fun _ _ h => h) (RoOk.of 0 rfl row_rd [] (by decide) rfl RoOk.nil) rfl ?_
        refine Mx.gq (t := 96) rfl rfl rfl (decide_eq_true (by first | (rw [Kn.set_in (by assumption)]; done) | (rw [Kn.set_in (by assumption)]; rfl))) rfl (Pu.qt (Pu.eqlL ((Kn.set [a, b, c, d, e, f, g] name v1).1) (([a, b, c, d, e, f, g]).set ((Wd.findR name Kn.names).1).toNat v1) Tryd.underlying50 Tryd.stoodInHeld50 Tryd.eqGuardType50 (fint50 Tryd.underlying50) (show ((Kn.set [a, b, c, d, e, f, g] name v1).1 : List Int).length = 7 from (by first | rfl | (first | rfl | exact Kn.set_len rfl | (rw [List.length_set]; rfl)))) (show (([a, b, c, d, e, f, g]).set ((Wd.findR name Kn.names).1).toNat v1 : List Int).length = 7 from (by first | rfl | (first | rfl | exact Kn.set_len rfl | (rw [List.length_set]; rfl)))) rfl rfl)) rfl ?_
        refine Mx.p rfl (Pu.pickT rfl (decide_eq_true (by first | (rw [Kn.set_in (by assumption)]; done) | (rw [Kn.set_in (by assumption)]; rfl))) rfl) rfl ?_
        refine Mx.p rfl (Pu.move rfl) rfl ?_
        refine Mx.gcall (vs := []) (caps := []) (t := 102) rfl rfl rfl (decide_eq_true (by first | (rw [Kn.set_in (by assumption)]; done) | (rw [Kn.set_in (by assumption)]; rfl))) rfl (by exact Tryd.call52) rfl rfl law18_awake (fun _ _ h => h) (RoOk.ro 0 rfl [] rfl (RoOk.ro 1 rfl [] rfl RoOk.nil)) rfl ?_
        refine Mx.p rfl (Pu.pickT rfl (decide_eq_true (by first | (rw [Kn.set_in (by assumption)]; done) | (rw [Kn.set_in (by assumption)]; rfl))) rfl) rfl ?_
        refine Mx.p rfl (Pu.assign rfl) rfl ?_
        refine Mx.nil ?_
        exact J.ret (Fin.ret (rs := [.tmp 6]) rfl [_] ⟨rfl, trivial⟩ [] (by decide) [] rfl ⟨rfl, rfl⟩)
    ·
      have p24 := of_decide_eq_false h12
      refine Mx.gskip (t := 53) rfl rfl rfl (no_bool (by rw [h12]; decide)) rfl rfl ?_
      refine Mx.gskip (t := 53) rfl rfl rfl (no_bool (by rw [h12]; decide)) rfl rfl ?_
      refine Mx.gq (t := 45) rfl rfl rfl (not_of_true (by simp)) rfl (Pu.qt (Pu.pickF rfl h12 rfl)) rfl ?_
      refine Mx.gq (t := 45) rfl rfl rfl (not_of_true (by simp)) rfl (Pu.qt (Pu.bneq Tryd.underlying4 rfl rfl)) rfl ?_
      refine Mx.p rfl (Pu.pickF rfl (not_of_true (by simp)) rfl) rfl ?_
      refine Mx.nil ?_
      refine J.condF rfl (by rw [Kn.usual_check]; simp [*]) ?_
      refine J.skip ?_
      refine J.seq ?_
      refine J.region ?_
      refine O.q (Qt.ld rfl (Cel.var 6 rfl) (o := 0) (off := 0) rfl (Cut.agg [.int .i64 a, .int .i64 b, .int .i64 c, .int .i64 d, .int .i64 e, .int .i64 f, .int .i64 g] Tryd.isAgg50 Tryd.sizeOf50 rfl rfl)) rfl ?_
      refine O.p (Pu.fieldAddr (off' := 0) Tryd.runUnderlying84 rfl Tryd.sizeOf9 rfl rfl rfl) rfl ?_
      refine O.q (Qt.ld rfl (Cel.var 5 rfl) (o := 0) (off := 0) rfl (Cut.one Tryd.isAgg9 rfl)) rfl ?_
      refine O.p (Pu.fieldAddr (off' := 1) Tryd.runUnderlying84 rfl Tryd.sizeOf3 rfl rfl rfl) rfl ?_
      refine O.q (Qt.ld rfl (Cel.var 5 rfl) (o := 0) (off := 1) rfl (Cut.one Tryd.isAgg3 rfl)) rfl ?_
      refine O.l (Lo.call [.agg #[.int .i64 a, .int .i64 b, .int .i64 c, .int .i64 d, .int .i64 e, .int .i64 f, .int .i64 g], str name, .int .i64 v1] (by exact Tryd.call65) rfl (kn_Set a b c d e f g name v1) [] [0, 1, 2, 3, 4, 5, 6] (by decide) rfl _ rfl (RoOk.ro 1 rfl [] rfl RoOk.nil)) rfl ?_
      rintro _ _ ⟨_, ⟨rfl, rfl⟩, rfl⟩
      refine O.p (Pu.move rfl) rfl ?_
      refine O.p (Pu.extract rfl rfl) rfl ?_
      refine O.p (Pu.extract rfl rfl) rfl ?_
      refine O.l (Lo.alloc [.int .i64 0, .int .i64 0, .int .i64 0, .int .i64 0, .int .i64 0, .int .i64 0, .int .i64 0] (by exact Tryd.zeroValue50) rfl) rfl ?_
      rintro _ _ ⟨g26, rfl, rfl⟩
      refine O.l0 (Lo.storeL 0 ((Kn.set [a, b, c, d, e, f, g] name v1).1) rfl rfl rfl (by exact Tryd.sizeOf50) (show ((Kn.set [a, b, c, d, e, f, g] name v1).1 : List Int).length = 7 from (by first | rfl | (first | rfl | exact Kn.set_len rfl | (rw [List.length_set]; rfl)))) (by first | rfl | (rw [List.length_map]; first | rfl | exact Kn.set_len rfl | (rw [List.length_set]; rfl)))) ?_
      rintro _ _ rfl
      refine O.p (Pu.assign rfl) rfl ?_
      refine O.nil ?_
      refine J.seq ?_
      refine J.drawMix [(0, false), (1, false), (2, true), (3, false), (4, false), (5, false), (6, false), (7, false), (8, false)] [6] [var g2 [str name, .int .i64 v1] 84] Tryd.mixed (by kernel_rfl) (by decide) rfl ?_
      refine Mx.p rfl (Pu.fieldAddr (off' := 0) Tryd.runUnderlying84 rfl Tryd.sizeOf9 rfl rfl rfl) rfl ?_
      refine Mx.q rfl (Qt.ld rfl (Cel.var 0 rfl) (o := 0) (off := 0) rfl (Cut.one Tryd.isAgg9 rfl)) rfl ?_
      refine Mx.l rfl (Lo.call [] (by exact Tryd.call62) rfl r18_Names [] [0, 1, 2, 3, 4, 5, 6, 7] (by decide) rfl _ rfl RoOk.nil) rfl ?_
      rintro v27 _ ⟨_, rfl, rfl⟩
      refine MxK.go [0, 7] [1] [row v27 9 1 (Kn.names.map encS), var g2 [str name, .int .i64 v1] 84] (by decide) rfl (by decide) rfl ?_
      refine Mx.call (vs := [str name, v27]) (caps := []) rfl (by exact Tryd.call66) rfl rfl (r06_Find name v27 Kn.names (by decide)) (fun _ _ h => h) (RoOk.of 0 rfl row_rd [] (by decide) rfl RoOk.nil) rfl ?_
      refine Mx.p rfl (Pu.move rfl) rfl ?_
      refine Mx.p rfl (Pu.extract rfl rfl) rfl ?_
      refine Mx.p rfl (Pu.extract rfl rfl) rfl ?_
      refine Mx.p rfl (Pu.assign rfl) rfl ?_
      refine Mx.p rfl (Pu.assign rfl) rfl ?_
      refine Mx.nil ?_
      refine J.seq ?_
      refine J.seq ?_
      refine J.region ?_
      refine O.p (Pu.move rfl) rfl ?_
      refine O.p (Pu.not rfl) rfl ?_
      refine O.nil ?_
      refine J.cond rfl (fun h28 => ?_) (fun h28 => ?_)
      ·
        have h29 : ((Wd.findR name Kn.names).2) = false := not_flip h28
        refine J.seq ?_
        refine J.region ?_
        refine O.p (Pu.move rfl) rfl ?_
        refine O.p (Pu.eql rfl rfl) rfl ?_
        refine O.p (Pu.move rfl) rfl ?_
        refine O.gq (t := 79) rfl rfl (decide_eq_true (by first | (rw [Kn.set_no (by assumption)]; done) | (rw [Kn.set_no (by assumption)]; rfl))) rfl (Qt.ld rfl (Cel.var 1 rfl) (o := 0) (off := 0) rfl (Cut.aggL Tryd.isAgg50 Tryd.sizeOf50 (by first | rfl | exact Kn.set_len rfl | (rw [List.length_set]; rfl)))) rfl ?_
        refine O.gq (t := 79) rfl rfl (decide_eq_true (by first | (rw [Kn.set_no (by assumption)]; done) | (rw [Kn.set_no (by assumption)]; rfl))) rfl (Pu.qt (Pu.build [] [.int .i64 0, .int .i64 0, .int .i64 0, .int .i64 0, .int .i64 0, .int .i64 0, .int .i64 0] #[(0, 1), (1, 1), (2, 1), (3, 1), (4, 1), (5, 1), (6, 1)] Tryd.runUnderlying50 Tryd.zeroValue50 (places50 Tryd.underlying50) rfl (by kernel_rfl))) rfl ?_
        refine O.gq (t := 79) rfl rfl (decide_eq_true (by first | (rw [Kn.set_no (by assumption)]; done) | (rw [Kn.set_no (by assumption)]; rfl))) rfl (Pu.qt (Pu.eqlL ((Kn.set [a, b, c, d, e, f, g] name v1).1) ([0, 0, 0, 0, 0, 0, 0]) Tryd.underlying50 Tryd.stoodInHeld50 Tryd.eqGuardType50 (fint50 Tryd.underlying50) (show ((Kn.set [a, b, c, d, e, f, g] name v1).1 : List Int).length = 7 from (by first | rfl | (first | rfl | exact Kn.set_len rfl | (rw [List.length_set]; rfl)))) (show ([0, 0, 0, 0, 0, 0, 0] : List Int).length = 7 from (by first | rfl | (first | rfl | exact Kn.set_len rfl | (rw [List.length_set]; rfl)))) rfl rfl)) rfl ?_
        refine O.p (Pu.pickT rfl (decide_eq_true (by first | (rw [Kn.set_no (by assumption)]; done) | (rw [Kn.set_no (by assumption)]; rfl))) rfl) rfl ?_
        refine O.p (Pu.move rfl) rfl ?_
        refine O.gl (t := 84) rfl rfl (decide_eq_true (by first | (rw [Kn.set_no (by assumption)]; done) | (rw [Kn.set_no (by assumption)]; rfl))) rfl (Lo.call [] (by exact Tryd.call52) rfl law18_awake [] [0, 1, 2, 3, 4, 5, 6, 7, 8] (by decide) rfl _ rfl (RoOk.ro 0 rfl [] rfl (RoOk.ro 1 rfl [] rfl RoOk.nil))) rfl ?_
        rintro _ _ ⟨_, ⟨rfl, rfl⟩, rfl⟩
        refine O.p (Pu.pickT rfl (decide_eq_true (by first | (rw [Kn.set_no (by assumption)]; done) | (rw [Kn.set_no (by assumption)]; rfl))) rfl) rfl ?_
        refine O.p (Pu.assign rfl) rfl ?_
        refine O.nil ?_
        exact J.ret (Fin.ret (rs := [.tmp 6]) rfl [_] ⟨rfl, trivial⟩ [] (by decide) [] rfl ⟨rfl, rfl⟩)
      ·
        have h31 : ((Wd.findR name Kn.names).2) = true := not_flip h28
        refine J.skip ?_
        refine J.seq ?_
        refine J.region ?_
        refine O.q (Qt.ld rfl (Cel.var 8 rfl) (o := 0) (off := 0) rfl (Cut.agg [.int .i64 a, .int .i64 b, .int .i64 c, .int .i64 d, .int .i64 e, .int .i64 f, .int .i64 g] Tryd.isAgg50 Tryd.sizeOf50 rfl rfl)) rfl ?_
        refine O.l (Lo.call [.agg #[.int .i64 a, .int .i64 b, .int .i64 c, .int .i64 d, .int .i64 e, .int .i64 f, .int .i64 g]] (by exact Tryd.call60) rfl (r18_Values a b c d e f g) [] [0, 1, 2, 3, 4, 5, 6, 7, 8] (by decide) rfl _ rfl RoOk.nil) rfl ?_
        rintro v32 _ ⟨_, rfl, rfl⟩
        refine O.p (Pu.assign rfl) rfl ?_
        refine O.nil ?_
        refine J.seq ?_
        refine J.region ?_
        refine O.p (Pu.move rfl) rfl ?_
        refine O.p (Pu.move rfl) rfl ?_
        refine O.p (Pu.fieldAddr (off' := 1) Tryd.runUnderlying84 rfl Tryd.sizeOf3 rfl rfl rfl) rfl ?_
        refine O.q (Qt.ld rfl (Cel.var 8 rfl) (o := 0) (off := 1) rfl (Cut.one Tryd.isAgg3 rfl)) rfl ?_
        obtain ⟨e33, he33⟩ : ∃ x_, ([a, b, c, d, e, f, g])[((Wd.findR name Kn.names).1).toNat]? = some x_ := ⟨_, List.getElem?_eq_getElem (by first | omega | (have hb_ := Kn.find_bnd (by assumption); first | omega | (simp only [List.length_cons, List.length_nil]; omega)))⟩
        refine O.q (Qt.idxM Tryd.runUnderlying40 Tryd.sizeOf3 rfl (Src.row 0 rfl) rfl (by first | omega | (have hb_ := Kn.find_bnd (by assumption); first | omega | (simp only [List.length_cons, List.length_nil]; omega))) (by first | omega | (have hb_ := Kn.find_bnd (by assumption); first | omega | (simp only [List.length_cons, List.length_nil]; omega)))) rfl ?_
        refine O.l0 (Lo.storeM 0 (j := ((Wd.findR name Kn.names).1).toNat) (off := 0) (vs := [.int .i64 v1]) (e := [.int .i64 e33]) v1 rfl rfl rfl rfl (by omega) he33 rfl (by exact Tryd.sizeOf3) rfl rfl rfl rfl rfl) ?_
        rintro _ _ rfl
        have hs34 : (([a, b, c, d, e, f, g]).set ((Wd.findR name Kn.names).1).toNat v1)[((Wd.findR name Kn.names).1).toNat]? = some v1 := List.getElem?_set_self (List.getElem?_eq_some_iff.1 he33).1
        refine O.nil ?_
        refine J.seq ?_
        refine J.drawMix [(0, false), (1, false), (2, false), (3, false), (4, false), (5, false), (6, false), (7, false), (8, false), (9, false), (10, false), (11, false)] [0, 2] [row v32 3 1 ((([a, b, c, d, e, f, g]).set ((Wd.findR name Kn.names).1).toNat v1).map encZ), var g26 (((Kn.set [a, b, c, d, e, f, g] name v1).1).map vI) 50] Tryd.mixed (by kernel_rfl) (by decide) rfl ?_
        refine Mx.p rfl (Pu.move rfl) rfl ?_
        refine Mx.p rfl (Pu.eql rfl rfl) rfl ?_
        refine Mx.p rfl (Pu.move rfl) rfl ?_
        refine Mx.gq (t := 96) rfl rfl rfl (decide_eq_true (by first | (rw [Kn.set_in (by assumption)]; done) | (rw [Kn.set_in (by assumption)]; rfl))) rfl (Qt.ld rfl (Cel.var 1 rfl) (o := 0) (off := 0) rfl (Cut.aggL Tryd.isAgg50 Tryd.sizeOf50 (by first | rfl | exact Kn.set_len rfl | (rw [List.length_set]; rfl)))) rfl ?_
        refine Mx.gq (t := 96) rfl rfl rfl (decide_eq_true (by first | (rw [Kn.set_in (by assumption)]; done) | (rw [Kn.set_in (by assumption)]; rfl))) rfl (Pu.qt (Pu.move rfl)) rfl ?_
        refine Mx.gcall (vs := [v32]) (caps := []) (t := 96) rfl rfl rfl (decide_eq_true (by first | (rw [Kn.set_in (by assumption)]; done) | (rw [Kn.set_in (by assumption)]; rfl))) rfl (by exact Tryd.call64) rfl rfl (r18_Of v32 (([a, b, c, d, e, f, g]).set ((Wd.findR name Kn.names).1).toNat v1) (by first | rfl | (first | rfl | (rw [List.length_set]; rfl)))) (fun _ _ h => h) (RoOk.of 0 rfl row_rd [] (by decide) rfl RoOk.nil) rfl ?_
        refine Mx.gq (t := 96) rfl rfl rfl (decide_eq_true (by first | (rw [Kn.set_in (by assumption)]; done) | (rw [Kn.set_in (by assumption)]; rfl))) rfl (Pu.qt (Pu.eqlL ((Kn.set [a, b, c, d, e, f, g] name v1).1) (([a, b, c, d, e, f, g]).set ((Wd.findR name Kn.names).1).toNat v1) Tryd.underlying50 Tryd.stoodInHeld50 Tryd.eqGuardType50 (fint50 Tryd.underlying50) (show ((Kn.set [a, b, c, d, e, f, g] name v1).1 : List Int).length = 7 from (by first | rfl | (first | rfl | exact Kn.set_len rfl | (rw [List.length_set]; rfl)))) (show (([a, b, c, d, e, f, g]).set ((Wd.findR name Kn.names).1).toNat v1 : List Int).length = 7 from (by first | rfl | (first | rfl | exact Kn.set_len rfl | (rw [List.length_set]; rfl)))) rfl rfl)) rfl ?_
        refine Mx.p rfl (Pu.pickT rfl (decide_eq_true (by first | (rw [Kn.set_in (by assumption)]; done) | (rw [Kn.set_in (by assumption)]; rfl))) rfl) rfl ?_
        refine Mx.p rfl (Pu.move rfl) rfl ?_
        refine Mx.gcall (vs := []) (caps := []) (t := 102) rfl rfl rfl (decide_eq_true (by first | (rw [Kn.set_in (by assumption)]; done) | (rw [Kn.set_in (by assumption)]; rfl))) rfl (by exact Tryd.call52) rfl rfl law18_awake (fun _ _ h => h) (RoOk.ro 0 rfl [] rfl (RoOk.ro 1 rfl [] rfl RoOk.nil)) rfl ?_
        refine Mx.p rfl (Pu.pickT rfl (decide_eq_true (by first | (rw [Kn.set_in (by assumption)]; done) | (rw [Kn.set_in (by assumption)]; rfl))) rfl) rfl ?_
        refine Mx.p rfl (Pu.assign rfl) rfl ?_
        refine Mx.nil ?_
        exact J.ret (Fin.ret (rs := [.tmp 6]) rfl [_] ⟨rfl, trivial⟩ [] (by decide) [] rfl ⟨rfl, rfl⟩)

end Go.Proofs.YtnfkoohgdcocdaaDoor
