/-
  Walks, printed by a program of mine (lk.py): each function meets its contract.
-/
import Derived.KernelRfl
import Derived.Test.YtilcmkegbmppnaaDoorCX2
namespace Go.Proofs.YtilcmkegbmppnaaDoor
open Go Go.LK
set_option linter.unusedSimpArgs false

set_option maxRecDepth 100000 in
theorem cf_Head (line : Wd.Bs) (hs : line.length ≤ 100000) : Tri Tryd.prog 10 #[str line] [libW, var 0 (Kn.names.map vS) 130] [] (fun v L' => ∃ v0 v1 v2 v3 v4 v5 v6 v7 v8 v9 v10 v11 v12, Cf.headL line = [v0, v1, v2, v3, v4, v5, v6, v7, v8, v9, v10, v11, v12] ∧ v = .tuple #[.agg #[.int .i64 v0, .int .i64 v1, .int .i64 v2, .int .i64 v3, .int .i64 v4, .int .i64 v5, .int .i64 v6, .int .i64 v7, .int .i64 v8, .int .i64 v9, .int .i64 v10, .int .i64 v11, .int .i64 v12, .slice none 0 0], .bool (Cf.numbers line Cf.svcW Cf.heads).2] ∧ L' = []) := by
  refine Tri.enter (args := [str line]) (body := _) 59 Tryd.func10 rfl Tryd.ntmps10 rfl ?_
  intro w0
  refine J.seq ?_
  refine J.region ?_
  refine O.l (Lo.alloc [.int .i64 0, .int .i64 0, .int .i64 0, .int .i64 0, .int .i64 0, .int .i64 0, .int .i64 0, .int .i64 0, .int .i64 0, .int .i64 0, .int .i64 0, .int .i64 0, .int .i64 0, Value.slice none 0 0] (by exact Tryd.zeroValue26) rfl) rfl ?_
  rintro _ _ ⟨g1, rfl, rfl⟩
  refine O.p (Pu.assign rfl) rfl ?_
  refine O.nil ?_
  refine J.seq ?_
  refine J.region ?_
  refine O.p (Pu.move rfl) rfl ?_
  refine O.l (Lo.call [] (by exact Tryd.call38) rfl cf_heads [] [0] (by decide) rfl [var g1 [.int .i64 0, .int .i64 0, .int .i64 0, .int .i64 0, .int .i64 0, .int .i64 0, .int .i64 0, .int .i64 0, .int .i64 0, .int .i64 0, .int .i64 0, .int .i64 0, .int .i64 0, Value.slice none 0 0] 26] rfl (RoOk.ro 1 rfl [] rfl RoOk.nil)) rfl ?_
  rintro v2 _ ⟨_, rfl, rfl⟩
  refine O.l (Lo.call [str line, str ([115, 101, 114, 118, 105, 99, 101]), v2] (by exact Tryd.call8) rfl (cf_Numbers line ([115, 101, 114, 118, 105, 99, 101]) v2 Cf.heads (by omega) (by decide) (fun x h => Nat.le_trans (Cf.heads_le x h) (by decide))) [] [0, 1] (by decide) rfl [row v2 9 1 (Cf.heads.map encS), var g1 [.int .i64 0, .int .i64 0, .int .i64 0, .int .i64 0, .int .i64 0, .int .i64 0, .int .i64 0, .int .i64 0, .int .i64 0, .int .i64 0, .int .i64 0, .int .i64 0, .int .i64 0, Value.slice none 0 0] 26] rfl (RoOk.ro 0 rfl [] rfl (RoOk.of 0 rfl row_rd [] (by decide) rfl RoOk.nil))) rfl ?_
  rintro _ _ ⟨_, ⟨V3, rfl, rfl⟩, rfl⟩
  refine O.p (Pu.move rfl) rfl ?_
  refine O.p (Pu.extract rfl rfl) rfl ?_
  refine O.p (Pu.extract rfl rfl) rfl ?_
  refine O.p (Pu.assign rfl) rfl ?_
  refine O.p (Pu.assign rfl) rfl ?_
  refine O.nil ?_
  refine J.seq ?_
  refine J.seq ?_
  refine J.region ?_
  refine O.p (Pu.move rfl) rfl ?_
  refine O.p (Pu.not rfl) rfl ?_
  refine O.nil ?_
  refine J.cond rfl (fun h5 => ?_) (fun h5 => ?_)
  ·
    have h6 : ((Cf.numbers line ([115, 101, 114, 118, 105, 99, 101]) Cf.heads).2) = false := not_flip h5
    refine J.seq ?_
    refine J.region ?_
    refine O.p (Pu.build [] [.int .i64 0, .int .i64 0, .int .i64 0, .int .i64 0, .int .i64 0, .int .i64 0, .int .i64 0, .int .i64 0, .int .i64 0, .int .i64 0, .int .i64 0, .int .i64 0, .int .i64 0, Value.slice none 0 0] #[(0, 1), (1, 1), (2, 1), (3, 1), (4, 1), (5, 1), (6, 7), (13, 1)] Tryd.runUnderlying26 Tryd.zeroValue26 (places26 Tryd.underlying26) rfl (by kernel_rfl)) rfl ?_
    refine O.l0 (Lo.store 2 (vs := [.int .i64 0, .int .i64 0, .int .i64 0, .int .i64 0, .int .i64 0, .int .i64 0, .int .i64 0, .int .i64 0, .int .i64 0, .int .i64 0, .int .i64 0, .int .i64 0, .int .i64 0, Value.slice none 0 0]) [.int .i64 0, .int .i64 0, .int .i64 0, .int .i64 0, .int .i64 0, .int .i64 0, .int .i64 0, .int .i64 0, .int .i64 0, .int .i64 0, .int .i64 0, .int .i64 0, .int .i64 0, Value.slice none 0 0] rfl rfl rfl (by exact Tryd.sizeOf26) rfl rfl rfl rfl rfl) ?_
    rintro _ _ rfl
    refine O.p (Pu.assign rfl) rfl ?_
    refine O.nil ?_
    exact J.ret (Fin.ret (rs := [.cell 2 26, .tmp 3]) rfl [_, _] ⟨⟨_, _, 0, 0, _, rfl, (Cel.var 2 rfl), rfl, (Cut.agg [.int .i64 0, .int .i64 0, .int .i64 0, .int .i64 0, .int .i64 0, .int .i64 0, .int .i64 0, .int .i64 0, .int .i64 0, .int .i64 0, .int .i64 0, .int .i64 0, .int .i64 0, Value.slice none 0 0] Tryd.isAgg26 Tryd.sizeOf26 rfl rfl)⟩, rfl, trivial⟩ [] (by decide) [] rfl ⟨0, 0, 0, 0, 0, 0, 0, 0, 0, 0, 0, 0, 0, Cf.headL_no (by assumption), (by rw [(by assumption : (Cf.numbers line Cf.svcW Cf.heads).2 = false)]; rfl), rfl⟩)
  ·
    have h7 : ((Cf.numbers line ([115, 101, 114, 118, 105, 99, 101]) Cf.heads).2) = true := not_flip h5
    refine J.skip ?_
    refine J.seq ?_
    refine J.region ?_
    refine O.p (Pu.move rfl) rfl ?_
    refine O.q (Qt.cutTail Tryd.runUnderlying30 Tryd.sizeOf3 rfl (Src.row 0 rfl) rfl (by first | omega | (have hl_ := Cf.numbers_len (by assumption : (Cf.numbers line ([115, 101, 114, 118, 105, 99, 101] : List UInt8) Cf.heads).2 = true); rw [Cf.heads_len] at hl_; first | omega | (simp only [List.length_drop]; omega))) (by first | omega | (have hl_ := Cf.numbers_len (by assumption : (Cf.numbers line ([115, 101, 114, 118, 105, 99, 101] : List UInt8) Cf.heads).2 = true); rw [Cf.heads_len] at hl_; first | omega | (simp only [List.length_drop]; omega)))) rfl ?_
    refine O.p (Pu.assign rfl) rfl ?_
    refine O.nil ?_
    refine J.seq ?_
    refine J.drawTail 41 Tryd.mixed (by kernel_rfl) ?_
    refine S.p (Pu.move rfl) rfl ?_
    obtain ⟨e8, he8⟩ : ∃ x_, ((Cf.numbers line ([115, 101, 114, 118, 105, 99, 101]) Cf.heads).1)[0]? = some x_ := ⟨_, List.getElem?_eq_getElem (by first | omega | (have hl_ := Cf.numbers_len (by assumption : (Cf.numbers line ([115, 101, 114, 118, 105, 99, 101] : List UInt8) Cf.heads).2 = true); rw [Cf.heads_len] at hl_; first | omega | (simp only [List.length_drop]; omega)))⟩
    refine S.q (Qt.idxM Tryd.runUnderlying30 Tryd.sizeOf3 rfl (Src.row 0 rfl) rfl (by first | omega | (have hl_ := Cf.numbers_len (by assumption : (Cf.numbers line ([115, 101, 114, 118, 105, 99, 101] : List UInt8) Cf.heads).2 = true); rw [Cf.heads_len] at hl_; first | omega | (simp only [List.length_drop]; omega))) (by first | omega | (have hl_ := Cf.numbers_len (by assumption : (Cf.numbers line ([115, 101, 114, 118, 105, 99, 101] : List UInt8) Cf.heads).2 = true); rw [Cf.heads_len] at hl_; first | omega | (simp only [List.length_drop]; omega)))) rfl ?_
    refine S.q (Qt.ld rfl (Cel.eltM (Src.row 0 rfl) he8) (o := (voff V3 + 0 * 1)) (off := 0) (by omega) (Cut.one Tryd.isAgg3 rfl)) rfl ?_
    refine S.p (Pu.move rfl) rfl ?_
    obtain ⟨e9, he9⟩ : ∃ x_, ((Cf.numbers line ([115, 101, 114, 118, 105, 99, 101]) Cf.heads).1)[1]? = some x_ := ⟨_, List.getElem?_eq_getElem (by first | omega | (have hl_ := Cf.numbers_len (by assumption : (Cf.numbers line ([115, 101, 114, 118, 105, 99, 101] : List UInt8) Cf.heads).2 = true); rw [Cf.heads_len] at hl_; first | omega | (simp only [List.length_drop]; omega)))⟩
    refine S.q (Qt.idxM Tryd.runUnderlying30 Tryd.sizeOf3 rfl (Src.row 0 rfl) rfl (by first | omega | (have hl_ := Cf.numbers_len (by assumption : (Cf.numbers line ([115, 101, 114, 118, 105, 99, 101] : List UInt8) Cf.heads).2 = true); rw [Cf.heads_len] at hl_; first | omega | (simp only [List.length_drop]; omega))) (by first | omega | (have hl_ := Cf.numbers_len (by assumption : (Cf.numbers line ([115, 101, 114, 118, 105, 99, 101] : List UInt8) Cf.heads).2 = true); rw [Cf.heads_len] at hl_; first | omega | (simp only [List.length_drop]; omega)))) rfl ?_
    refine S.q (Qt.ld rfl (Cel.eltM (Src.row 0 rfl) he9) (o := (voff V3 + 1 * 1)) (off := 0) (by omega) (Cut.one Tryd.isAgg3 rfl)) rfl ?_
    refine S.p (Pu.move rfl) rfl ?_
    obtain ⟨e10, he10⟩ : ∃ x_, ((Cf.numbers line ([115, 101, 114, 118, 105, 99, 101]) Cf.heads).1)[2]? = some x_ := ⟨_, List.getElem?_eq_getElem (by first | omega | (have hl_ := Cf.numbers_len (by assumption : (Cf.numbers line ([115, 101, 114, 118, 105, 99, 101] : List UInt8) Cf.heads).2 = true); rw [Cf.heads_len] at hl_; first | omega | (simp only [List.length_drop]; omega)))⟩
    refine S.q (Qt.idxM Tryd.runUnderlying30 Tryd.sizeOf3 rfl (Src.row 0 rfl) rfl (by first | omega | (have hl_ := Cf.numbers_len (by assumption : (Cf.numbers line ([115, 101, 114, 118, 105, 99, 101] : List UInt8) Cf.heads).2 = true); rw [Cf.heads_len] at hl_; first | omega | (simp only [List.length_drop]; omega))) (by first | omega | (have hl_ := Cf.numbers_len (by assumption : (Cf.numbers line ([115, 101, 114, 118, 105, 99, 101] : List UInt8) Cf.heads).2 = true); rw [Cf.heads_len] at hl_; first | omega | (simp only [List.length_drop]; omega)))) rfl ?_
    refine S.q (Qt.ld rfl (Cel.eltM (Src.row 0 rfl) he10) (o := (voff V3 + 2 * 1)) (off := 0) (by omega) (Cut.one Tryd.isAgg3 rfl)) rfl ?_
    refine S.p (Pu.move rfl) rfl ?_
    obtain ⟨e11, he11⟩ : ∃ x_, ((Cf.numbers line ([115, 101, 114, 118, 105, 99, 101]) Cf.heads).1)[3]? = some x_ := ⟨_, List.getElem?_eq_getElem (by first | omega | (have hl_ := Cf.numbers_len (by assumption : (Cf.numbers line ([115, 101, 114, 118, 105, 99, 101] : List UInt8) Cf.heads).2 = true); rw [Cf.heads_len] at hl_; first | omega | (simp only [List.length_drop]; omega)))⟩
    refine S.q (Qt.idxM Tryd.runUnderlying30 Tryd.sizeOf3 rfl (Src.row 0 rfl) rfl (by first | omega | (have hl_ := Cf.numbers_len (by assumption : (Cf.numbers line ([115, 101, 114, 118, 105, 99, 101] : List UInt8) Cf.heads).2 = true); rw [Cf.heads_len] at hl_; first | omega | (simp only [List.length_drop]; omega))) (by first | omega | (have hl_ := Cf.numbers_len (by assumption : (Cf.numbers line ([115, 101, 114, 118, 105, 99, 101] : List UInt8) Cf.heads).2 = true); rw [Cf.heads_len] at hl_; first | omega | (simp only [List.length_drop]; omega)))) rfl ?_
    refine S.q (Qt.ld rfl (Cel.eltM (Src.row 0 rfl) he11) (o := (voff V3 + 3 * 1)) (off := 0) (by omega) (Cut.one Tryd.isAgg3 rfl)) rfl ?_
    refine S.p (Pu.move rfl) rfl ?_
    obtain ⟨e12, he12⟩ : ∃ x_, ((Cf.numbers line ([115, 101, 114, 118, 105, 99, 101]) Cf.heads).1)[4]? = some x_ := ⟨_, List.getElem?_eq_getElem (by first | omega | (have hl_ := Cf.numbers_len (by assumption : (Cf.numbers line ([115, 101, 114, 118, 105, 99, 101] : List UInt8) Cf.heads).2 = true); rw [Cf.heads_len] at hl_; first | omega | (simp only [List.length_drop]; omega)))⟩
    refine S.q (Qt.idxM Tryd.runUnderlying30 Tryd.sizeOf3 rfl (Src.row 0 rfl) rfl (by first | omega | (have hl_ := Cf.numbers_len (by assumption : (Cf.numbers line ([115, 101, 114, 118, 105, 99, 101] : List UInt8) Cf.heads).2 = true); rw [Cf.heads_len] at hl_; first | omega | (simp only [List.length_drop]; omega))) (by first | omega | (have hl_ := Cf.numbers_len (by assumption : (Cf.numbers line ([115, 101, 114, 118, 105, 99, 101] : List UInt8) Cf.heads).2 = true); rw [Cf.heads_len] at hl_; first | omega | (simp only [List.length_drop]; omega)))) rfl ?_
    refine S.q (Qt.ld rfl (Cel.eltM (Src.row 0 rfl) he12) (o := (voff V3 + 4 * 1)) (off := 0) (by omega) (Cut.one Tryd.isAgg3 rfl)) rfl ?_
    refine S.p (Pu.move rfl) rfl ?_
    obtain ⟨e13, he13⟩ : ∃ x_, ((Cf.numbers line ([115, 101, 114, 118, 105, 99, 101]) Cf.heads).1)[5]? = some x_ := ⟨_, List.getElem?_eq_getElem (by first | omega | (have hl_ := Cf.numbers_len (by assumption : (Cf.numbers line ([115, 101, 114, 118, 105, 99, 101] : List UInt8) Cf.heads).2 = true); rw [Cf.heads_len] at hl_; first | omega | (simp only [List.length_drop]; omega)))⟩
    refine S.q (Qt.idxM Tryd.runUnderlying30 Tryd.sizeOf3 rfl (Src.row 0 rfl) rfl (by first | omega | (have hl_ := Cf.numbers_len (by assumption : (Cf.numbers line ([115, 101, 114, 118, 105, 99, 101] : List UInt8) Cf.heads).2 = true); rw [Cf.heads_len] at hl_; first | omega | (simp only [List.length_drop]; omega))) (by first | omega | (have hl_ := Cf.numbers_len (by assumption : (Cf.numbers line ([115, 101, 114, 118, 105, 99, 101] : List UInt8) Cf.heads).2 = true); rw [Cf.heads_len] at hl_; first | omega | (simp only [List.length_drop]; omega)))) rfl ?_
    refine S.q (Qt.ld rfl (Cel.eltM (Src.row 0 rfl) he13) (o := (voff V3 + 5 * 1)) (off := 0) (by omega) (Cut.one Tryd.isAgg3 rfl)) rfl ?_
    refine S.p (Pu.move rfl) rfl ?_
    obtain ⟨e14, he14⟩ : ∃ x_, (((Cf.numbers line ([115, 101, 114, 118, 105, 99, 101]) Cf.heads).1).drop (6 : Int).toNat)[0]? = some x_ := ⟨_, List.getElem?_eq_getElem (by first | omega | (have hl_ := Cf.numbers_len (by assumption : (Cf.numbers line ([115, 101, 114, 118, 105, 99, 101] : List UInt8) Cf.heads).2 = true); rw [Cf.heads_len] at hl_; first | omega | (simp only [List.length_drop]; omega)))⟩
    refine S.q (Qt.idxM Tryd.runUnderlying30 Tryd.sizeOf3 rfl (Src.tail (Src.row 0 rfl) (by first | omega | (have hl_ := Cf.numbers_len (by assumption : (Cf.numbers line ([115, 101, 114, 118, 105, 99, 101] : List UInt8) Cf.heads).2 = true); rw [Cf.heads_len] at hl_; first | omega | (simp only [List.length_drop]; omega))) rfl) rfl (by first | omega | (have hl_ := Cf.numbers_len (by assumption : (Cf.numbers line ([115, 101, 114, 118, 105, 99, 101] : List UInt8) Cf.heads).2 = true); rw [Cf.heads_len] at hl_; first | omega | (simp only [List.length_drop]; omega))) (by first | omega | (have hl_ := Cf.numbers_len (by assumption : (Cf.numbers line ([115, 101, 114, 118, 105, 99, 101] : List UInt8) Cf.heads).2 = true); rw [Cf.heads_len] at hl_; first | omega | (simp only [List.length_drop]; omega)))) rfl ?_
    refine S.q (Qt.ld rfl (Cel.eltM (Src.tail (Src.row 0 rfl) (by first | omega | (have hl_ := Cf.numbers_len (by assumption : (Cf.numbers line ([115, 101, 114, 118, 105, 99, 101] : List UInt8) Cf.heads).2 = true); rw [Cf.heads_len] at hl_; first | omega | (simp only [List.length_drop]; omega))) rfl) he14) (o := (voff (vcut V3 1 (6 : Int).toNat ((Cf.numbers line ([115, 101, 114, 118, 105, 99, 101]) Cf.heads).1).length) + 0 * 1)) (off := 0) (by omega) (Cut.one Tryd.isAgg3 rfl)) rfl ?_
    refine S.p (Pu.move rfl) rfl ?_
    obtain ⟨e15, he15⟩ : ∃ x_, (((Cf.numbers line ([115, 101, 114, 118, 105, 99, 101]) Cf.heads).1).drop (6 : Int).toNat)[1]? = some x_ := ⟨_, List.getElem?_eq_getElem (by first | omega | (have hl_ := Cf.numbers_len (by assumption : (Cf.numbers line ([115, 101, 114, 118, 105, 99, 101] : List UInt8) Cf.heads).2 = true); rw [Cf.heads_len] at hl_; first | omega | (simp only [List.length_drop]; omega)))⟩
    refine S.q (Qt.idxM Tryd.runUnderlying30 Tryd.sizeOf3 rfl (Src.tail (Src.row 0 rfl) (by first | omega | (have hl_ := Cf.numbers_len (by assumption : (Cf.numbers line ([115, 101, 114, 118, 105, 99, 101] : List UInt8) Cf.heads).2 = true); rw [Cf.heads_len] at hl_; first | omega | (simp only [List.length_drop]; omega))) rfl) rfl (by first | omega | (have hl_ := Cf.numbers_len (by assumption : (Cf.numbers line ([115, 101, 114, 118, 105, 99, 101] : List UInt8) Cf.heads).2 = true); rw [Cf.heads_len] at hl_; first | omega | (simp only [List.length_drop]; omega))) (by first | omega | (have hl_ := Cf.numbers_len (by assumption : (Cf.numbers line ([115, 101, 114, 118, 105, 99, 101] : List UInt8) Cf.heads).2 = true); rw [Cf.heads_len] at hl_; first | omega | (simp only [List.length_drop]; omega)))) rfl ?_
    refine S.q (Qt.ld rfl (Cel.eltM (Src.tail (Src.row 0 rfl) (by first | omega | (have hl_ := Cf.numbers_len (by assumption : (Cf.numbers line ([115, 101, 114, 118, 105, 99, 101] : List UInt8) Cf.heads).2 = true); rw [Cf.heads_len] at hl_; first | omega | (simp only [List.length_drop]; omega))) rfl) he15) (o := (voff (vcut V3 1 (6 : Int).toNat ((Cf.numbers line ([115, 101, 114, 118, 105, 99, 101]) Cf.heads).1).length) + 1 * 1)) (off := 0) (by omega) (Cut.one Tryd.isAgg3 rfl)) rfl ?_
    refine S.p (Pu.move rfl) rfl ?_
    obtain ⟨e16, he16⟩ : ∃ x_, (((Cf.numbers line ([115, 101, 114, 118, 105, 99, 101]) Cf.heads).1).drop (6 : Int).toNat)[2]? = some x_ := ⟨_, List.getElem?_eq_getElem (by first | omega | (have hl_ := Cf.numbers_len (by assumption : (Cf.numbers line ([115, 101, 114, 118, 105, 99, 101] : List UInt8) Cf.heads).2 = true); rw [Cf.heads_len] at hl_; first | omega | (simp only [List.length_drop]; omega)))⟩
    refine S.q (Qt.idxM Tryd.runUnderlying30 Tryd.sizeOf3 rfl (Src.tail (Src.row 0 rfl) (by first | omega | (have hl_ := Cf.numbers_len (by assumption : (Cf.numbers line ([115, 101, 114, 118, 105, 99, 101] : List UInt8) Cf.heads).2 = true); rw [Cf.heads_len] at hl_; first | omega | (simp only [List.length_drop]; omega))) rfl) rfl (by first | omega | (have hl_ := Cf.numbers_len (by assumption : (Cf.numbers line ([115, 101, 114, 118, 105, 99, 101] : List UInt8) Cf.heads).2 = true); rw [Cf.heads_len] at hl_; first | omega | (simp only [List.length_drop]; omega))) (by first | omega | (have hl_ := Cf.numbers_len (by assumption : (Cf.numbers line ([115, 101, 114, 118, 105, 99, 101] : List UInt8) Cf.heads).2 = true); rw [Cf.heads_len] at hl_; first | omega | (simp only [List.length_drop]; omega)))) rfl ?_
    refine S.q (Qt.ld rfl (Cel.eltM (Src.tail (Src.row 0 rfl) (by first | omega | (have hl_ := Cf.numbers_len (by assumption : (Cf.numbers line ([115, 101, 114, 118, 105, 99, 101] : List UInt8) Cf.heads).2 = true); rw [Cf.heads_len] at hl_; first | omega | (simp only [List.length_drop]; omega))) rfl) he16) (o := (voff (vcut V3 1 (6 : Int).toNat ((Cf.numbers line ([115, 101, 114, 118, 105, 99, 101]) Cf.heads).1).length) + 2 * 1)) (off := 0) (by omega) (Cut.one Tryd.isAgg3 rfl)) rfl ?_
    refine S.p (Pu.move rfl) rfl ?_
    obtain ⟨e17, he17⟩ : ∃ x_, (((Cf.numbers line ([115, 101, 114, 118, 105, 99, 101]) Cf.heads).1).drop (6 : Int).toNat)[3]? = some x_ := ⟨_, List.getElem?_eq_getElem (by first | omega | (have hl_ := Cf.numbers_len (by assumption : (Cf.numbers line ([115, 101, 114, 118, 105, 99, 101] : List UInt8) Cf.heads).2 = true); rw [Cf.heads_len] at hl_; first | omega | (simp only [List.length_drop]; omega)))⟩
    refine S.q (Qt.idxM Tryd.runUnderlying30 Tryd.sizeOf3 rfl (Src.tail (Src.row 0 rfl) (by first | omega | (have hl_ := Cf.numbers_len (by assumption : (Cf.numbers line ([115, 101, 114, 118, 105, 99, 101] : List UInt8) Cf.heads).2 = true); rw [Cf.heads_len] at hl_; first | omega | (simp only [List.length_drop]; omega))) rfl) rfl (by first | omega | (have hl_ := Cf.numbers_len (by assumption : (Cf.numbers line ([115, 101, 114, 118, 105, 99, 101] : List UInt8) Cf.heads).2 = true); rw [Cf.heads_len] at hl_; first | omega | (simp only [List.length_drop]; omega))) (by first | omega | (have hl_ := Cf.numbers_len (by assumption : (Cf.numbers line ([115, 101, 114, 118, 105, 99, 101] : List UInt8) Cf.heads).2 = true); rw [Cf.heads_len] at hl_; first | omega | (simp only [List.length_drop]; omega)))) rfl ?_
    refine S.q (Qt.ld rfl (Cel.eltM (Src.tail (Src.row 0 rfl) (by first | omega | (have hl_ := Cf.numbers_len (by assumption : (Cf.numbers line ([115, 101, 114, 118, 105, 99, 101] : List UInt8) Cf.heads).2 = true); rw [Cf.heads_len] at hl_; first | omega | (simp only [List.length_drop]; omega))) rfl) he17) (o := (voff (vcut V3 1 (6 : Int).toNat ((Cf.numbers line ([115, 101, 114, 118, 105, 99, 101]) Cf.heads).1).length) + 3 * 1)) (off := 0) (by omega) (Cut.one Tryd.isAgg3 rfl)) rfl ?_
    refine S.p (Pu.move rfl) rfl ?_
    obtain ⟨e18, he18⟩ : ∃ x_, (((Cf.numbers line ([115, 101, 114, 118, 105, 99, 101]) Cf.heads).1).drop (6 : Int).toNat)[4]? = some x_ := ⟨_, List.getElem?_eq_getElem (by first | omega | (have hl_ := Cf.numbers_len (by assumption : (Cf.numbers line ([115, 101, 114, 118, 105, 99, 101] : List UInt8) Cf.heads).2 = true); rw [Cf.heads_len] at hl_; first | omega | (simp only [List.length_drop]; omega)))⟩
    refine S.q (Qt.idxM Tryd.runUnderlying30 Tryd.sizeOf3 rfl (Src.tail (Src.row 0 rfl) (by first | omega | (have hl_ := Cf.numbers_len (by assumption : (Cf.numbers line ([115, 101, 114, 118, 105, 99, 101] : List UInt8) Cf.heads).2 = true); rw [Cf.heads_len] at hl_; first | omega | (simp only [List.length_drop]; omega))) rfl) rfl (by first | omega | (have hl_ := Cf.numbers_len (by assumption : (Cf.numbers line ([115, 101, 114, 118, 105, 99, 101] : List UInt8) Cf.heads).2 = true); rw [Cf.heads_len] at hl_; first | omega | (simp only [List.length_drop]; omega))) (by first | omega | (have hl_ := Cf.numbers_len (by assumption : (Cf.numbers line ([115, 101, 114, 118, 105, 99, 101] : List UInt8) Cf.heads).2 = true); rw [Cf.heads_len] at hl_; first | omega | (simp only [List.length_drop]; omega)))) rfl ?_
    refine S.q (Qt.ld rfl (Cel.eltM (Src.tail (Src.row 0 rfl) (by first | omega | (have hl_ := Cf.numbers_len (by assumption : (Cf.numbers line ([115, 101, 114, 118, 105, 99, 101] : List UInt8) Cf.heads).2 = true); rw [Cf.heads_len] at hl_; first | omega | (simp only [List.length_drop]; omega))) rfl) he18) (o := (voff (vcut V3 1 (6 : Int).toNat ((Cf.numbers line ([115, 101, 114, 118, 105, 99, 101]) Cf.heads).1).length) + 4 * 1)) (off := 0) (by omega) (Cut.one Tryd.isAgg3 rfl)) rfl ?_
    refine S.p (Pu.move rfl) rfl ?_
    obtain ⟨e19, he19⟩ : ∃ x_, (((Cf.numbers line ([115, 101, 114, 118, 105, 99, 101]) Cf.heads).1).drop (6 : Int).toNat)[5]? = some x_ := ⟨_, List.getElem?_eq_getElem (by first | omega | (have hl_ := Cf.numbers_len (by assumption : (Cf.numbers line ([115, 101, 114, 118, 105, 99, 101] : List UInt8) Cf.heads).2 = true); rw [Cf.heads_len] at hl_; first | omega | (simp only [List.length_drop]; omega)))⟩
    refine S.q (Qt.idxM Tryd.runUnderlying30 Tryd.sizeOf3 rfl (Src.tail (Src.row 0 rfl) (by first | omega | (have hl_ := Cf.numbers_len (by assumption : (Cf.numbers line ([115, 101, 114, 118, 105, 99, 101] : List UInt8) Cf.heads).2 = true); rw [Cf.heads_len] at hl_; first | omega | (simp only [List.length_drop]; omega))) rfl) rfl (by first | omega | (have hl_ := Cf.numbers_len (by assumption : (Cf.numbers line ([115, 101, 114, 118, 105, 99, 101] : List UInt8) Cf.heads).2 = true); rw [Cf.heads_len] at hl_; first | omega | (simp only [List.length_drop]; omega))) (by first | omega | (have hl_ := Cf.numbers_len (by assumption : (Cf.numbers line ([115, 101, 114, 118, 105, 99, 101] : List UInt8) Cf.heads).2 = true); rw [Cf.heads_len] at hl_; first | omega | (simp only [List.length_drop]; omega)))) rfl ?_
    refine S.q (Qt.ld rfl (Cel.eltM (Src.tail (Src.row 0 rfl) (by first | omega | (have hl_ := Cf.numbers_len (by assumption : (Cf.numbers line ([115, 101, 114, 118, 105, 99, 101] : List UInt8) Cf.heads).2 = true); rw [Cf.heads_len] at hl_; first | omega | (simp only [List.length_drop]; omega))) rfl) he19) (o := (voff (vcut V3 1 (6 : Int).toNat ((Cf.numbers line ([115, 101, 114, 118, 105, 99, 101]) Cf.heads).1).length) + 5 * 1)) (off := 0) (by omega) (Cut.one Tryd.isAgg3 rfl)) rfl ?_
    refine S.p (Pu.move rfl) rfl ?_
    obtain ⟨e20, he20⟩ : ∃ x_, (((Cf.numbers line ([115, 101, 114, 118, 105, 99, 101]) Cf.heads).1).drop (6 : Int).toNat)[6]? = some x_ := ⟨_, List.getElem?_eq_getElem (by first | omega | (have hl_ := Cf.numbers_len (by assumption : (Cf.numbers line ([115, 101, 114, 118, 105, 99, 101] : List UInt8) Cf.heads).2 = true); rw [Cf.heads_len] at hl_; first | omega | (simp only [List.length_drop]; omega)))⟩
    refine S.q (Qt.idxM Tryd.runUnderlying30 Tryd.sizeOf3 rfl (Src.tail (Src.row 0 rfl) (by first | omega | (have hl_ := Cf.numbers_len (by assumption : (Cf.numbers line ([115, 101, 114, 118, 105, 99, 101] : List UInt8) Cf.heads).2 = true); rw [Cf.heads_len] at hl_; first | omega | (simp only [List.length_drop]; omega))) rfl) rfl (by first | omega | (have hl_ := Cf.numbers_len (by assumption : (Cf.numbers line ([115, 101, 114, 118, 105, 99, 101] : List UInt8) Cf.heads).2 = true); rw [Cf.heads_len] at hl_; first | omega | (simp only [List.length_drop]; omega))) (by first | omega | (have hl_ := Cf.numbers_len (by assumption : (Cf.numbers line ([115, 101, 114, 118, 105, 99, 101] : List UInt8) Cf.heads).2 = true); rw [Cf.heads_len] at hl_; first | omega | (simp only [List.length_drop]; omega)))) rfl ?_
    refine S.q (Qt.ld rfl (Cel.eltM (Src.tail (Src.row 0 rfl) (by first | omega | (have hl_ := Cf.numbers_len (by assumption : (Cf.numbers line ([115, 101, 114, 118, 105, 99, 101] : List UInt8) Cf.heads).2 = true); rw [Cf.heads_len] at hl_; first | omega | (simp only [List.length_drop]; omega))) rfl) he20) (o := (voff (vcut V3 1 (6 : Int).toNat ((Cf.numbers line ([115, 101, 114, 118, 105, 99, 101]) Cf.heads).1).length) + 6 * 1)) (off := 0) (by omega) (Cut.one Tryd.isAgg3 rfl)) rfl ?_
    refine S.p (Pu.build [(0, .int .i64 e14), (1, .int .i64 e15), (2, .int .i64 e16), (3, .int .i64 e17), (4, .int .i64 e18), (5, .int .i64 e19), (6, .int .i64 e20)] [.int .i64 e14, .int .i64 e15, .int .i64 e16, .int .i64 e17, .int .i64 e18, .int .i64 e19, .int .i64 e20] #[(0, 1), (1, 1), (2, 1), (3, 1), (4, 1), (5, 1), (6, 1)] Tryd.runUnderlying23 Tryd.zeroValue23 (places23 Tryd.underlying23) rfl (by kernel_rfl)) rfl ?_
    refine S.p (Pu.build [(0, .int .i64 e8), (1, .int .i64 e9), (2, .int .i64 e10), (3, .int .i64 e11), (4, .int .i64 e12), (5, .int .i64 e13), (6, .agg #[.int .i64 e14, .int .i64 e15, .int .i64 e16, .int .i64 e17, .int .i64 e18, .int .i64 e19, .int .i64 e20])] [.int .i64 e8, .int .i64 e9, .int .i64 e10, .int .i64 e11, .int .i64 e12, .int .i64 e13, .int .i64 e14, .int .i64 e15, .int .i64 e16, .int .i64 e17, .int .i64 e18, .int .i64 e19, .int .i64 e20, Value.slice none 0 0] #[(0, 1), (1, 1), (2, 1), (3, 1), (4, 1), (5, 1), (6, 7), (13, 1)] Tryd.runUnderlying26 Tryd.zeroValue26 (places26 Tryd.underlying26) rfl (by kernel_rfl)) rfl ?_
    refine S.endO ?_
    refine O.l0 (Lo.store 2 (vs := [.int .i64 e8, .int .i64 e9, .int .i64 e10, .int .i64 e11, .int .i64 e12, .int .i64 e13, .int .i64 e14, .int .i64 e15, .int .i64 e16, .int .i64 e17, .int .i64 e18, .int .i64 e19, .int .i64 e20, Value.slice none 0 0]) [.int .i64 e8, .int .i64 e9, .int .i64 e10, .int .i64 e11, .int .i64 e12, .int .i64 e13, .int .i64 e14, .int .i64 e15, .int .i64 e16, .int .i64 e17, .int .i64 e18, .int .i64 e19, .int .i64 e20, Value.slice none 0 0] rfl rfl rfl (by exact Tryd.sizeOf26) rfl rfl rfl rfl rfl) ?_
    rintro _ _ rfl
    refine O.p (Pu.assign rfl) rfl ?_
    refine O.nil ?_
    exact J.ret (Fin.ret (rs := [.cell 2 26, .tmp 3]) rfl [_, _] ⟨⟨_, _, 0, 0, _, rfl, (Cel.var 2 rfl), rfl, (Cut.agg [.int .i64 e8, .int .i64 e9, .int .i64 e10, .int .i64 e11, .int .i64 e12, .int .i64 e13, .int .i64 e14, .int .i64 e15, .int .i64 e16, .int .i64 e17, .int .i64 e18, .int .i64 e19, .int .i64 e20, Value.slice none 0 0] Tryd.isAgg26 Tryd.sizeOf26 rfl rfl)⟩, rfl, trivial⟩ [] (by decide) [] rfl ⟨e8, e9, e10, e11, e12, e13, e14, e15, e16, e17, e18, e19, e20, (Cf.headL_yes (by assumption)).trans (Cf.list13 (Cf.numbers_len (by assumption)) rfl he8 he9 he10 he11 he12 he13 he14 he15 he16 he17 he18 he19 he20), (by rw [(by assumption : (Cf.numbers line Cf.svcW Cf.heads).2 = true)]; rfl), rfl⟩)

theorem r18_Of_ex (lv : Value) (l : List Int) (h7 : l.length = 7) : Tri Tryd.prog 40 #[lv] [rd lv 1 (l.map encZ)] [] (fun v L' => ∃ a b c d e f g, l = [a, b, c, d, e, f, g] ∧ v = .agg #[.int .i64 a, .int .i64 b, .int .i64 c, .int .i64 d, .int .i64 e, .int .i64 f, .int .i64 g] ∧ L' = []) := by
  have h := r18_Of lv l h7
  obtain ⟨a, b, c, d, e, f, g, rfl⟩ := Cf.ex7 h7
  exact fun w hro hst => (h w hro hst).mono fun _ _ ⟨v, L', he, ⟨hv, hL⟩, hs⟩ => ⟨v, L', he, ⟨a, b, c, d, e, f, g, rfl, hv, hL⟩, hs⟩

set_option maxRecDepth 100000 in
theorem r28_Head (line : Wd.Bs) (hs : line.length ≤ 100000) : Tri Tryd.prog 11 #[str line] [] [] (fun v L' => ∃ v0 v1 v2 v3 v4 v5 v6 v7 v8 v9 v10 v11 v12, Cf.headL line = [v0, v1, v2, v3, v4, v5, v6, v7, v8, v9, v10, v11, v12] ∧ v = .tuple #[.agg #[.int .i64 v0, .int .i64 v1, .int .i64 v2, .int .i64 v3, .int .i64 v4, .int .i64 v5, .int .i64 v6, .int .i64 v7, .int .i64 v8, .int .i64 v9, .int .i64 v10, .int .i64 v11, .int .i64 v12, .slice none 0 0], .bool (Cf.numbers line Cf.svcW Cf.heads).2] ∧ L' = []) := by
  refine Tri.enter (args := [str line]) (body := _) 37 Tryd.func11 rfl Tryd.ntmps11 rfl ?_
  intro w0
  refine J.seq ?_
  refine J.region ?_
  refine O.l (Lo.alloc [.int .i64 0, .int .i64 0, .int .i64 0, .int .i64 0, .int .i64 0, .int .i64 0, .int .i64 0, .int .i64 0, .int .i64 0, .int .i64 0, .int .i64 0, .int .i64 0, .int .i64 0, Value.slice none 0 0] (by exact Tryd.zeroValue26) rfl) rfl ?_
  rintro _ _ ⟨g1, rfl, rfl⟩
  refine O.p (Pu.assign rfl) rfl ?_
  refine O.nil ?_
  refine J.seq ?_
  refine J.region ?_
  refine O.p (Pu.move rfl) rfl ?_
  refine O.l (Lo.call [] (by exact Tryd.call39) rfl r28_heads [] [0] (by decide) rfl [var g1 [.int .i64 0, .int .i64 0, .int .i64 0, .int .i64 0, .int .i64 0, .int .i64 0, .int .i64 0, .int .i64 0, .int .i64 0, .int .i64 0, .int .i64 0, .int .i64 0, .int .i64 0, Value.slice none 0 0] 26] rfl RoOk.nil) rfl ?_
  rintro v2 _ ⟨_, rfl, rfl⟩
  refine O.l (Lo.call [str line, str ([115, 101, 114, 118, 105, 99, 101]), v2] (by exact Tryd.call9) rfl (r28_Numbers line ([115, 101, 114, 118, 105, 99, 101]) v2 Cf.heads (by omega) (by decide) (fun x h => Nat.le_trans (Cf.heads_le x h) (by decide))) [] [0, 1] (by decide) rfl [row v2 9 1 (Cf.heads.map encS), var g1 [.int .i64 0, .int .i64 0, .int .i64 0, .int .i64 0, .int .i64 0, .int .i64 0, .int .i64 0, .int .i64 0, .int .i64 0, .int .i64 0, .int .i64 0, .int .i64 0, .int .i64 0, Value.slice none 0 0] 26] rfl (RoOk.of 0 rfl row_rd [] (by decide) rfl RoOk.nil)) rfl ?_
  rintro _ _ ⟨_, ⟨V3, rfl, rfl⟩, rfl⟩
  refine O.p (Pu.move rfl) rfl ?_
  refine O.p (Pu.extract rfl rfl) rfl ?_
  refine O.p (Pu.extract rfl rfl) rfl ?_
  refine O.p (Pu.assign rfl) rfl ?_
  refine O.p (Pu.assign rfl) rfl ?_
  refine O.nil ?_
  refine J.seq ?_
  refine J.seq ?_
  refine J.region ?_
  refine O.p (Pu.move rfl) rfl ?_
  refine O.p (Pu.not rfl) rfl ?_
  refine O.nil ?_
  refine J.cond rfl (fun h5 => ?_) (fun h5 => ?_)
  ·
    have h6 : ((Cf.numbers line ([115, 101, 114, 118, 105, 99, 101]) Cf.heads).2) = false := not_flip h5
    refine J.seq ?_
    refine J.region ?_
    refine O.p (Pu.build [] [.int .i64 0, .int .i64 0, .int .i64 0, .int .i64 0, .int .i64 0, .int .i64 0, .int .i64 0, .int .i64 0, .int .i64 0, .int .i64 0, .int .i64 0, .int .i64 0, .int .i64 0, Value.slice none 0 0] #[(0, 1), (1, 1), (2, 1), (3, 1), (4, 1), (5, 1), (6, 7), (13, 1)] Tryd.runUnderlying26 Tryd.zeroValue26 (places26 Tryd.underlying26) rfl (by kernel_rfl)) rfl ?_
    refine O.l0 (Lo.store 2 (vs := [.int .i64 0, .int .i64 0, .int .i64 0, .int .i64 0, .int .i64 0, .int .i64 0, .int .i64 0, .int .i64 0, .int .i64 0, .int .i64 0, .int .i64 0, .int .i64 0, .int .i64 0, Value.slice none 0 0]) [.int .i64 0, .int .i64 0, .int .i64 0, .int .i64 0, .int .i64 0, .int .i64 0, .int .i64 0, .int .i64 0, .int .i64 0, .int .i64 0, .int .i64 0, .int .i64 0, .int .i64 0, Value.slice none 0 0] rfl rfl rfl (by exact Tryd.sizeOf26) rfl rfl rfl rfl rfl) ?_
    rintro _ _ rfl
    refine O.p (Pu.assign rfl) rfl ?_
    refine O.nil ?_
    exact J.ret (Fin.ret (rs := [.cell 2 26, .tmp 3]) rfl [_, _] ⟨⟨_, _, 0, 0, _, rfl, (Cel.var 2 rfl), rfl, (Cut.agg [.int .i64 0, .int .i64 0, .int .i64 0, .int .i64 0, .int .i64 0, .int .i64 0, .int .i64 0, .int .i64 0, .int .i64 0, .int .i64 0, .int .i64 0, .int .i64 0, .int .i64 0, Value.slice none 0 0] Tryd.isAgg26 Tryd.sizeOf26 rfl rfl)⟩, rfl, trivial⟩ [] (by decide) [] rfl ⟨0, 0, 0, 0, 0, 0, 0, 0, 0, 0, 0, 0, 0, Cf.headL_no (by assumption), (by rw [(by assumption : (Cf.numbers line Cf.svcW Cf.heads).2 = false)]; rfl), rfl⟩)
  ·
    have h7 : ((Cf.numbers line ([115, 101, 114, 118, 105, 99, 101]) Cf.heads).2) = true := not_flip h5
    refine J.skip ?_
    refine J.seq ?_
    refine J.drawMix [(0, false), (1, false), (2, false), (3, false), (4, false), (5, false), (6, false), (7, false), (8, false), (9, false), (10, false), (11, false), (12, false), (13, false), (14, false), (15, false), (16, false), (17, false), (18, false), (19, false), (20, true), (21, false), (22, true), (23, false)] [0] [row V3 3 1 (((Cf.numbers line ([115, 101, 114, 118, 105, 99, 101]) Cf.heads).1).map encZ)] Tryd.mixed (by kernel_rfl) (by decide) rfl ?_
    refine Mx.p rfl (Pu.move rfl) rfl ?_
    obtain ⟨e8, he8⟩ : ∃ x_, ((Cf.numbers line ([115, 101, 114, 118, 105, 99, 101]) Cf.heads).1)[0]? = some x_ := ⟨_, List.getElem?_eq_getElem (by first | omega | (have hl_ := Cf.numbers_len (by assumption : (Cf.numbers line ([115, 101, 114, 118, 105, 99, 101] : List UInt8) Cf.heads).2 = true); rw [Cf.heads_len] at hl_; first | omega | (simp only [List.length_drop]; omega)))⟩
    refine Mx.q rfl (Qt.idxM Tryd.runUnderlying30 Tryd.sizeOf3 rfl (Src.row 0 rfl) rfl (by first | omega | (have hl_ := Cf.numbers_len (by assumption : (Cf.numbers line ([115, 101, 114, 118, 105, 99, 101] : List UInt8) Cf.heads).2 = true); rw [Cf.heads_len] at hl_; first | omega | (simp only [List.length_drop]; omega))) (by first | omega | (have hl_ := Cf.numbers_len (by assumption : (Cf.numbers line ([115, 101, 114, 118, 105, 99, 101] : List UInt8) Cf.heads).2 = true); rw [Cf.heads_len] at hl_; first | omega | (simp only [List.length_drop]; omega)))) rfl ?_
    refine Mx.q rfl (Qt.ld rfl (Cel.eltM (Src.row 0 rfl) he8) (o := (voff V3 + 0 * 1)) (off := 0) (by omega) (Cut.one Tryd.isAgg3 rfl)) rfl ?_
    refine Mx.p rfl (Pu.move rfl) rfl ?_
    obtain ⟨e9, he9⟩ : ∃ x_, ((Cf.numbers line ([115, 101, 114, 118, 105, 99, 101]) Cf.heads).1)[1]? = some x_ := ⟨_, List.getElem?_eq_getElem (by first | omega | (have hl_ := Cf.numbers_len (by assumption : (Cf.numbers line ([115, 101, 114, 118, 105, 99, 101] : List UInt8) Cf.heads).2 = true); rw [Cf.heads_len] at hl_; first | omega | (simp only [List.length_drop]; omega)))⟩
    refine Mx.q rfl (Qt.idxM Tryd.runUnderlying30 Tryd.sizeOf3 rfl (Src.row 0 rfl) rfl (by first | omega | (have hl_ := Cf.numbers_len (by assumption : (Cf.numbers line ([115, 101, 114, 118, 105, 99, 101] : List UInt8) Cf.heads).2 = true); rw [Cf.heads_len] at hl_; first | omega | (simp only [List.length_drop]; omega))) (by first | omega | (have hl_ := Cf.numbers_len (by assumption : (Cf.numbers line ([115, 101, 114, 118, 105, 99, 101] : List UInt8) Cf.heads).2 = true); rw [Cf.heads_len] at hl_; first | omega | (simp only [List.length_drop]; omega)))) rfl ?_
    refine Mx.q rfl (Qt.ld rfl (Cel.eltM (Src.row 0 rfl) he9) (o := (voff V3 + 1 * 1)) (off := 0) (by omega) (Cut.one Tryd.isAgg3 rfl)) rfl ?_
    refine Mx.p rfl (Pu.move rfl) rfl ?_
    obtain ⟨e10, he10⟩ : ∃ x_, ((Cf.numbers line ([115, 101, 114, 118, 105, 99, 101]) Cf.heads).1)[2]? = some x_ := ⟨_, List.getElem?_eq_getElem (by first | omega | (have hl_ := Cf.numbers_len (by assumption : (Cf.numbers line ([115, 101, 114, 118, 105, 99, 101] : List UInt8) Cf.heads).2 = true); rw [Cf.heads_len] at hl_; first | omega | (simp only [List.length_drop]; omega)))⟩
    refine Mx.q rfl (Qt.idxM Tryd.runUnderlying30 Tryd.sizeOf3 rfl (Src.row 0 rfl) rfl (by first | omega | (have hl_ := Cf.numbers_len (by assumption : (Cf.numbers line ([115, 101, 114, 118, 105, 99, 101] : List UInt8) Cf.heads).2 = true); rw [Cf.heads_len] at hl_; first | omega | (simp only [List.length_drop]; omega))) (by first | omega | (have hl_ := Cf.numbers_len (by assumption : (Cf.numbers line ([115, 101, 114, 118, 105, 99, 101] : List UInt8) Cf.heads).2 = true); rw [Cf.heads_len] at hl_; first | omega | (simp only [List.length_drop]; omega)))) rfl ?_
    refine Mx.q rfl (Qt.ld rfl (Cel.eltM (Src.row 0 rfl) he10) (o := (voff V3 + 2 * 1)) (off := 0) (by omega) (Cut.one Tryd.isAgg3 rfl)) rfl ?_
    refine Mx.p rfl (Pu.move rfl) rfl ?_
    obtain ⟨e11, he11⟩ : ∃ x_, ((Cf.numbers line ([115, 101, 114, 118, 105, 99, 101]) Cf.heads).1)[3]? = some x_ := ⟨_, List.getElem?_eq_getElem (by first | omega | (have hl_ := Cf.numbers_len (by assumption : (Cf.numbers line ([115, 101, 114, 118, 105, 99, 101] : List UInt8) Cf.heads).2 = true); rw [Cf.heads_len] at hl_; first | omega | (simp only [List.length_drop]; omega)))⟩
    refine Mx.q rfl (Qt.idxM Tryd.runUnderlying30 Tryd.sizeOf3 rfl (Src.row 0 rfl) rfl (by first | omega | (have hl_ := Cf.numbers_len (by assumption : (Cf.numbers line ([115, 101, 114, 118, 105, 99, 101] : List UInt8) Cf.heads).2 = true); rw [Cf.heads_len] at hl_; first | omega | (simp only [List.length_drop]; omega))) (by first | omega | (have hl_ := Cf.numbers_len (by assumption : (Cf.numbers line ([115, 101, 114, 118, 105, 99, 101] : List UInt8) Cf.heads).2 = true); rw [Cf.heads_len] at hl_; first | omega | (simp only [List.length_drop]; omega)))) rfl ?_
    refine Mx.q rfl (Qt.ld rfl (Cel.eltM (Src.row 0 rfl) he11) (o := (voff V3 + 3 * 1)) (off := 0) (by omega) (Cut.one Tryd.isAgg3 rfl)) rfl ?_
    refine Mx.p rfl (Pu.move rfl) rfl ?_
    obtain ⟨e12, he12⟩ : ∃ x_, ((Cf.numbers line ([115, 101, 114, 118, 105, 99, 101]) Cf.heads).1)[4]? = some x_ := ⟨_, List.getElem?_eq_getElem (by first | omega | (have hl_ := Cf.numbers_len (by assumption : (Cf.numbers line ([115, 101, 114, 118, 105, 99, 101] : List UInt8) Cf.heads).2 = true); rw [Cf.heads_len] at hl_; first | omega | (simp only [List.length_drop]; omega)))⟩
    refine Mx.q rfl (Qt.idxM Tryd.runUnderlying30 Tryd.sizeOf3 rfl (Src.row 0 rfl) rfl (by first | omega | (have hl_ := Cf.numbers_len (by assumption : (Cf.numbers line ([115, 101, 114, 118, 105, 99, 101] : List UInt8) Cf.heads).2 = true); rw [Cf.heads_len] at hl_; first | omega | (simp only [List.length_drop]; omega))) (by first | omega | (have hl_ := Cf.numbers_len (by assumption : (Cf.numbers line ([115, 101, 114, 118, 105, 99, 101] : List UInt8) Cf.heads).2 = true); rw [Cf.heads_len] at hl_; first | omega | (simp only [List.length_drop]; omega)))) rfl ?_
    refine Mx.q rfl (Qt.ld rfl (Cel.eltM (Src.row 0 rfl) he12) (o := (voff V3 + 4 * 1)) (off := 0) (by omega) (Cut.one Tryd.isAgg3 rfl)) rfl ?_
    refine Mx.p rfl (Pu.move rfl) rfl ?_
    obtain ⟨e13, he13⟩ : ∃ x_, ((Cf.numbers line ([115, 101, 114, 118, 105, 99, 101]) Cf.heads).1)[5]? = some x_ := ⟨_, List.getElem?_eq_getElem (by first | omega | (have hl_ := Cf.numbers_len (by assumption : (Cf.numbers line ([115, 101, 114, 118, 105, 99, 101] : List UInt8) Cf.heads).2 = true); rw [Cf.heads_len] at hl_; first | omega | (simp only [List.length_drop]; omega)))⟩
    refine Mx.q rfl (Qt.idxM Tryd.runUnderlying30 Tryd.sizeOf3 rfl (Src.row 0 rfl) rfl (by first | omega | (have hl_ := Cf.numbers_len (by assumption : (Cf.numbers line ([115, 101, 114, 118, 105, 99, 101] : List UInt8) Cf.heads).2 = true); rw [Cf.heads_len] at hl_; first | omega | (simp only [List.length_drop]; omega))) (by first | omega | (have hl_ := Cf.numbers_len (by assumption : (Cf.numbers line ([115, 101, 114, 118, 105, 99, 101] : List UInt8) Cf.heads).2 = true); rw [Cf.heads_len] at hl_; first | omega | (simp only [List.length_drop]; omega)))) rfl ?_
    refine Mx.q rfl (Qt.ld rfl (Cel.eltM (Src.row 0 rfl) he13) (o := (voff V3 + 5 * 1)) (off := 0) (by omega) (Cut.one Tryd.isAgg3 rfl)) rfl ?_
    refine Mx.p rfl (Pu.move rfl) rfl ?_
    refine Mx.q rfl (Qt.cutTail Tryd.runUnderlying30 Tryd.sizeOf3 rfl (Src.row 0 rfl) rfl (by first | omega | (have hl_ := Cf.numbers_len (by assumption : (Cf.numbers line ([115, 101, 114, 118, 105, 99, 101] : List UInt8) Cf.heads).2 = true); rw [Cf.heads_len] at hl_; first | omega | (simp only [List.length_drop]; omega))) (by first | omega | (have hl_ := Cf.numbers_len (by assumption : (Cf.numbers line ([115, 101, 114, 118, 105, 99, 101] : List UInt8) Cf.heads).2 = true); rw [Cf.heads_len] at hl_; first | omega | (simp only [List.length_drop]; omega)))) rfl ?_
    refine Mx.l rfl (Lo.call [vcut V3 1 (6 : Int).toNat ((Cf.numbers line ([115, 101, 114, 118, 105, 99, 101]) Cf.heads).1).length] (by exact Tryd.call40) rfl (r18_Of_ex (vcut V3 1 (6 : Int).toNat ((Cf.numbers line ([115, 101, 114, 118, 105, 99, 101]) Cf.heads).1).length) (((Cf.numbers line ([115, 101, 114, 118, 105, 99, 101]) Cf.heads).1).drop (6 : Int).toNat) (by first | omega | (have hl_ := Cf.numbers_len (by assumption : (Cf.numbers line ([115, 101, 114, 118, 105, 99, 101] : List UInt8) Cf.heads).2 = true); rw [Cf.heads_len] at hl_; first | omega | (simp only [List.length_drop]; omega)))) [] [0, 1, 2] (by decide) rfl [row V3 3 1 (((Cf.numbers line ([115, 101, 114, 118, 105, 99, 101]) Cf.heads).1).map encZ), row v2 9 1 (Cf.heads.map encS), var g1 [.int .i64 0, .int .i64 0, .int .i64 0, .int .i64 0, .int .i64 0, .int .i64 0, .int .i64 0, .int .i64 0, .int .i64 0, .int .i64 0, .int .i64 0, .int .i64 0, .int .i64 0, Value.slice none 0 0] 26] rfl (RoOk.of 0 rfl (rd_trans row_rd (tail_rd (by first | omega | (have hl_ := Cf.numbers_len (by assumption : (Cf.numbers line ([115, 101, 114, 118, 105, 99, 101] : List UInt8) Cf.heads).2 = true); rw [Cf.heads_len] at hl_; first | omega | (simp only [List.length_drop]; omega))) rfl)) [] (by decide) rfl RoOk.nil)) rfl ?_
    rintro _ _ ⟨_, ⟨y14, y15, y16, y17, y18, y19, y20, hy21, rfl, rfl⟩, rfl⟩
    refine MxK.go [0] [0] [row V3 3 1 (((Cf.numbers line ([115, 101, 114, 118, 105, 99, 101]) Cf.heads).1).map encZ)] (by decide) rfl (by decide) rfl ?_
    refine Mx.p rfl (Pu.build [(0, .int .i64 e8), (1, .int .i64 e9), (2, .int .i64 e10), (3, .int .i64 e11), (4, .int .i64 e12), (5, .int .i64 e13), (6, .agg #[.int .i64 y14, .int .i64 y15, .int .i64 y16, .int .i64 y17, .int .i64 y18, .int .i64 y19, .int .i64 y20])] [.int .i64 e8, .int .i64 e9, .int .i64 e10, .int .i64 e11, .int .i64 e12, .int .i64 e13, .int .i64 y14, .int .i64 y15, .int .i64 y16, .int .i64 y17, .int .i64 y18, .int .i64 y19, .int .i64 y20, Value.slice none 0 0] #[(0, 1), (1, 1), (2, 1), (3, 1), (4, 1), (5, 1), (6, 7), (13, 1)] Tryd.runUnderlying26 Tryd.zeroValue26 (places26 Tryd.underlying26) rfl (by kernel_rfl)) rfl ?_
    refine Mx.l0 rfl (Lo.store 2 (vs := [.int .i64 e8, .int .i64 e9, .int .i64 e10, .int .i64 e11, .int .i64 e12, .int .i64 e13, .int .i64 y14, .int .i64 y15, .int .i64 y16, .int .i64 y17, .int .i64 y18, .int .i64 y19, .int .i64 y20, Value.slice none 0 0]) [.int .i64 e8, .int .i64 e9, .int .i64 e10, .int .i64 e11, .int .i64 e12, .int .i64 e13, .int .i64 y14, .int .i64 y15, .int .i64 y16, .int .i64 y17, .int .i64 y18, .int .i64 y19, .int .i64 y20, Value.slice none 0 0] rfl rfl rfl (by exact Tryd.sizeOf26) rfl rfl rfl rfl rfl) ?_
    rintro _ _ rfl
    refine MxK.all [0] [row V3 3 1 (((Cf.numbers line ([115, 101, 114, 118, 105, 99, 101]) Cf.heads).1).map encZ)] (by decide) rfl (by kernel_rfl) ?_
    refine Mx.p rfl (Pu.assign rfl) rfl ?_
    refine Mx.nil ?_
    exact J.ret (Fin.ret (rs := [.cell 2 26, .tmp 3]) rfl [_, _] ⟨⟨_, _, 0, 0, _, rfl, (Cel.var 2 rfl), rfl, (Cut.agg [.int .i64 e8, .int .i64 e9, .int .i64 e10, .int .i64 e11, .int .i64 e12, .int .i64 e13, .int .i64 y14, .int .i64 y15, .int .i64 y16, .int .i64 y17, .int .i64 y18, .int .i64 y19, .int .i64 y20, Value.slice none 0 0] Tryd.isAgg26 Tryd.sizeOf26 rfl rfl)⟩, rfl, trivial⟩ [] (by decide) [] rfl ⟨e8, e9, e10, e11, e12, e13, y14, y15, y16, y17, y18, y19, y20, (Cf.headL_yes (by assumption)).trans (Cf.list13' (Cf.numbers_len (by assumption)) hy21 he8 he9 he10 he11 he12 he13), (by rw [(by assumption : (Cf.numbers line Cf.svcW Cf.heads).2 = true)]; rfl), rfl⟩)

set_option maxRecDepth 100000 in
theorem cf_Call (line : Wd.Bs) (hs : line.length ≤ 100000) : Tri Tryd.prog 12 #[str line] [libW] [] (fun v L' => ∃ v0 v1 v2 v3, Cf.callL line = [v0, v1, v2, v3] ∧ v = .tuple #[.agg #[.int .i64 v0, .int .i64 v1, .int .i64 v2, .int .i64 v3], .bool (Cf.numbers line Cf.callW Cf.tails).2] ∧ L' = []) := by
  refine Tri.enter (args := [str line]) (body := _) 28 Tryd.func12 rfl Tryd.ntmps12 rfl ?_
  intro w0
  refine J.seq ?_
  refine J.region ?_
  refine O.l (Lo.alloc [.int .i64 0, .int .i64 0, .int .i64 0, .int .i64 0] (by exact Tryd.zeroValue38) rfl) rfl ?_
  rintro _ _ ⟨g1, rfl, rfl⟩
  refine O.p (Pu.assign rfl) rfl ?_
  refine O.nil ?_
  refine J.seq ?_
  refine J.region ?_
  refine O.p (Pu.move rfl) rfl ?_
  refine O.l (Lo.call [] (by exact Tryd.call41) rfl cf_tails [] [0] (by decide) rfl [var g1 [.int .i64 0, .int .i64 0, .int .i64 0, .int .i64 0] 38] rfl RoOk.nil) rfl ?_
  rintro v2 _ ⟨_, rfl, rfl⟩
  refine O.l (Lo.call [str line, str ([99, 97, 108, 108]), v2] (by exact Tryd.call8) rfl (cf_Numbers line ([99, 97, 108, 108]) v2 Cf.tails (by omega) (by decide) (fun x h => Nat.le_trans (Cf.tails_le x h) (by decide))) [] [0, 1] (by decide) rfl [row v2 9 1 (Cf.tails.map encS), var g1 [.int .i64 0, .int .i64 0, .int .i64 0, .int .i64 0] 38] rfl (RoOk.ro 0 rfl [] rfl (RoOk.of 0 rfl row_rd [] (by decide) rfl RoOk.nil))) rfl ?_
  rintro _ _ ⟨_, ⟨V3, rfl, rfl⟩, rfl⟩
  refine O.p (Pu.move rfl) rfl ?_
  refine O.p (Pu.extract rfl rfl) rfl ?_
  refine O.p (Pu.extract rfl rfl) rfl ?_
  refine O.p (Pu.assign rfl) rfl ?_
  refine O.p (Pu.assign rfl) rfl ?_
  refine O.nil ?_
  refine J.seq ?_
  refine J.seq ?_
  refine J.region ?_
  refine O.p (Pu.move rfl) rfl ?_
  refine O.p (Pu.not rfl) rfl ?_
  refine O.nil ?_
  refine J.cond rfl (fun h5 => ?_) (fun h5 => ?_)
  ·
    have h6 : ((Cf.numbers line ([99, 97, 108, 108]) Cf.tails).2) = false := not_flip h5
    refine J.seq ?_
    refine J.region ?_
    refine O.p (Pu.build [] [.int .i64 0, .int .i64 0, .int .i64 0, .int .i64 0] #[(0, 1), (1, 1), (2, 1), (3, 1)] Tryd.runUnderlying38 Tryd.zeroValue38 (places38 Tryd.underlying38) rfl (by kernel_rfl)) rfl ?_
    refine O.l0 (Lo.store 2 (vs := [.int .i64 0, .int .i64 0, .int .i64 0, .int .i64 0]) [.int .i64 0, .int .i64 0, .int .i64 0, .int .i64 0] rfl rfl rfl (by exact Tryd.sizeOf38) rfl rfl rfl rfl rfl) ?_
    rintro _ _ rfl
    refine O.p (Pu.assign rfl) rfl ?_
    refine O.nil ?_
    exact J.ret (Fin.ret (rs := [.cell 2 38, .tmp 3]) rfl [_, _] ⟨⟨_, _, 0, 0, _, rfl, (Cel.var 2 rfl), rfl, (Cut.agg [.int .i64 0, .int .i64 0, .int .i64 0, .int .i64 0] Tryd.isAgg38 Tryd.sizeOf38 rfl rfl)⟩, rfl, trivial⟩ [] (by decide) [] rfl ⟨0, 0, 0, 0, Cf.callL_no (by assumption), (by rw [(by assumption : (Cf.numbers line Cf.callW Cf.tails).2 = false)]; rfl), rfl⟩)
  ·
    have h7 : ((Cf.numbers line ([99, 97, 108, 108]) Cf.tails).2) = true := not_flip h5
    refine J.skip ?_
    refine J.seq ?_
    refine J.drawTail 13 Tryd.mixed (by kernel_rfl) ?_
    refine S.p (Pu.move rfl) rfl ?_
    obtain ⟨e8, he8⟩ : ∃ x_, ((Cf.numbers line ([99, 97, 108, 108]) Cf.tails).1)[0]? = some x_ := ⟨_, List.getElem?_eq_getElem (by first | omega | (have hl_ := Cf.numbers_len (by assumption : (Cf.numbers line ([99, 97, 108, 108] : List UInt8) Cf.tails).2 = true); rw [Cf.tails_len] at hl_; omega))⟩
    refine S.q (Qt.idxM Tryd.runUnderlying30 Tryd.sizeOf3 rfl (Src.row 0 rfl) rfl (by first | omega | (have hl_ := Cf.numbers_len (by assumption : (Cf.numbers line ([99, 97, 108, 108] : List UInt8) Cf.tails).2 = true); rw [Cf.tails_len] at hl_; omega)) (by first | omega | (have hl_ := Cf.numbers_len (by assumption : (Cf.numbers line ([99, 97, 108, 108] : List UInt8) Cf.tails).2 = true); rw [Cf.tails_len] at hl_; omega))) rfl ?_
    refine S.q (Qt.ld rfl (Cel.eltM (Src.row 0 rfl) he8) (o := (voff V3 + 0 * 1)) (off := 0) (by omega) (Cut.one Tryd.isAgg3 rfl)) rfl ?_
    refine S.p (Pu.move rfl) rfl ?_
    obtain ⟨e9, he9⟩ : ∃ x_, ((Cf.numbers line ([99, 97, 108, 108]) Cf.tails).1)[1]? = some x_ := ⟨_, List.getElem?_eq_getElem (by first | omega | (have hl_ := Cf.numbers_len (by assumption : (Cf.numbers line ([99, 97, 108, 108] : List UInt8) Cf.tails).2 = true); rw [Cf.tails_len] at hl_; omega))⟩
    refine S.q (Qt.idxM Tryd.runUnderlying30 Tryd.sizeOf3 rfl (Src.row 0 rfl) rfl (by first | omega | (have hl_ := Cf.numbers_len (by assumption : (Cf.numbers line ([99, 97, 108, 108] : List UInt8) Cf.tails).2 = true); rw [Cf.tails_len] at hl_; omega)) (by first | omega | (have hl_ := Cf.numbers_len (by assumption : (Cf.numbers line ([99, 97, 108, 108] : List UInt8) Cf.tails).2 = true); rw [Cf.tails_len] at hl_; omega))) rfl ?_
    refine S.q (Qt.ld rfl (Cel.eltM (Src.row 0 rfl) he9) (o := (voff V3 + 1 * 1)) (off := 0) (by omega) (Cut.one Tryd.isAgg3 rfl)) rfl ?_
    refine S.p (Pu.move rfl) rfl ?_
    obtain ⟨e10, he10⟩ : ∃ x_, ((Cf.numbers line ([99, 97, 108, 108]) Cf.tails).1)[2]? = some x_ := ⟨_, List.getElem?_eq_getElem (by first | omega | (have hl_ := Cf.numbers_len (by assumption : (Cf.numbers line ([99, 97, 108, 108] : List UInt8) Cf.tails).2 = true); rw [Cf.tails_len] at hl_; omega))⟩
    refine S.q (Qt.idxM Tryd.runUnderlying30 Tryd.sizeOf3 rfl (Src.row 0 rfl) rfl (by first | omega | (have hl_ := Cf.numbers_len (by assumption : (Cf.numbers line ([99, 97, 108, 108] : List UInt8) Cf.tails).2 = true); rw [Cf.tails_len] at hl_; omega)) (by first | omega | (have hl_ := Cf.numbers_len (by assumption : (Cf.numbers line ([99, 97, 108, 108] : List UInt8) Cf.tails).2 = true); rw [Cf.tails_len] at hl_; omega))) rfl ?_
    refine S.q (Qt.ld rfl (Cel.eltM (Src.row 0 rfl) he10) (o := (voff V3 + 2 * 1)) (off := 0) (by omega) (Cut.one Tryd.isAgg3 rfl)) rfl ?_
    refine S.p (Pu.move rfl) rfl ?_
    obtain ⟨e11, he11⟩ : ∃ x_, ((Cf.numbers line ([99, 97, 108, 108]) Cf.tails).1)[3]? = some x_ := ⟨_, List.getElem?_eq_getElem (by first | omega | (have hl_ := Cf.numbers_len (by assumption : (Cf.numbers line ([99, 97, 108, 108] : List UInt8) Cf.tails).2 = true); rw [Cf.tails_len] at hl_; omega))⟩
    refine S.q (Qt.idxM Tryd.runUnderlying30 Tryd.sizeOf3 rfl (Src.row 0 rfl) rfl (by first | omega | (have hl_ := Cf.numbers_len (by assumption : (Cf.numbers line ([99, 97, 108, 108] : List UInt8) Cf.tails).2 = true); rw [Cf.tails_len] at hl_; omega)) (by first | omega | (have hl_ := Cf.numbers_len (by assumption : (Cf.numbers line ([99, 97, 108, 108] : List UInt8) Cf.tails).2 = true); rw [Cf.tails_len] at hl_; omega))) rfl ?_
    refine S.q (Qt.ld rfl (Cel.eltM (Src.row 0 rfl) he11) (o := (voff V3 + 3 * 1)) (off := 0) (by omega) (Cut.one Tryd.isAgg3 rfl)) rfl ?_
    refine S.p (Pu.build [(0, .int .i64 e8), (1, .int .i64 e9), (2, .int .i64 e10), (3, .int .i64 e11)] [.int .i64 e8, .int .i64 e9, .int .i64 e10, .int .i64 e11] #[(0, 1), (1, 1), (2, 1), (3, 1)] Tryd.runUnderlying38 Tryd.zeroValue38 (places38 Tryd.underlying38) rfl (by kernel_rfl)) rfl ?_
    refine S.endO ?_
    refine O.l0 (Lo.store 2 (vs := [.int .i64 e8, .int .i64 e9, .int .i64 e10, .int .i64 e11]) [.int .i64 e8, .int .i64 e9, .int .i64 e10, .int .i64 e11] rfl rfl rfl (by exact Tryd.sizeOf38) rfl rfl rfl rfl rfl) ?_
    rintro _ _ rfl
    refine O.p (Pu.assign rfl) rfl ?_
    refine O.nil ?_
    exact J.ret (Fin.ret (rs := [.cell 2 38, .tmp 3]) rfl [_, _] ⟨⟨_, _, 0, 0, _, rfl, (Cel.var 2 rfl), rfl, (Cut.agg [.int .i64 e8, .int .i64 e9, .int .i64 e10, .int .i64 e11] Tryd.isAgg38 Tryd.sizeOf38 rfl rfl)⟩, rfl, trivial⟩ [] (by decide) [] rfl ⟨e8, e9, e10, e11, (Cf.callL_yes (by assumption)).trans (Cf.list4 (Cf.numbers_len (by assumption)) he8 he9 he10 he11), (by rw [(by assumption : (Cf.numbers line Cf.callW Cf.tails).2 = true)]; rfl), rfl⟩)

set_option maxRecDepth 100000 in
theorem r28_Call (line : Wd.Bs) (hs : line.length ≤ 100000) : Tri Tryd.prog 13 #[str line] [] [] (fun v L' => ∃ v0 v1 v2 v3, Cf.callL line = [v0, v1, v2, v3] ∧ v = .tuple #[.agg #[.int .i64 v0, .int .i64 v1, .int .i64 v2, .int .i64 v3], .bool (Cf.numbers line Cf.callW Cf.tails).2] ∧ L' = []) := by
  refine Tri.enter (args := [str line]) (body := _) 28 Tryd.func13 rfl Tryd.ntmps13 rfl ?_
  intro w0
  refine J.seq ?_
  refine J.region ?_
  refine O.l (Lo.alloc [.int .i64 0, .int .i64 0, .int .i64 0, .int .i64 0] (by exact Tryd.zeroValue38) rfl) rfl ?_
  rintro _ _ ⟨g1, rfl, rfl⟩
  refine O.p (Pu.assign rfl) rfl ?_
  refine O.nil ?_
  refine J.seq ?_
  refine J.region ?_
  refine O.p (Pu.move rfl) rfl ?_
  refine O.l (Lo.call [] (by exact Tryd.call42) rfl r28_tails [] [0] (by decide) rfl [var g1 [.int .i64 0, .int .i64 0, .int .i64 0, .int .i64 0] 38] rfl RoOk.nil) rfl ?_
  rintro v2 _ ⟨_, rfl, rfl⟩
  refine O.l (Lo.call [str line, str ([99, 97, 108, 108]), v2] (by exact Tryd.call9) rfl (r28_Numbers line ([99, 97, 108, 108]) v2 Cf.tails (by omega) (by decide) (fun x h => Nat.le_trans (Cf.tails_le x h) (by decide))) [] [0, 1] (by decide) rfl [row v2 9 1 (Cf.tails.map encS), var g1 [.int .i64 0, .int .i64 0, .int .i64 0, .int .i64 0] 38] rfl (RoOk.of 0 rfl row_rd [] (by decide) rfl RoOk.nil)) rfl ?_
  rintro _ _ ⟨_, ⟨V3, rfl, rfl⟩, rfl⟩
  refine O.p (Pu.move rfl) rfl ?_
  refine O.p (Pu.extract rfl rfl) rfl ?_
  refine O.p (Pu.extract rfl rfl) rfl ?_
  refine O.p (Pu.assign rfl) rfl ?_
  refine O.p (Pu.assign rfl) rfl ?_
  refine O.nil ?_
  refine J.seq ?_
  refine J.seq ?_
  refine J.region ?_
  refine O.p (Pu.move rfl) rfl ?_
  refine O.p (Pu.not rfl) rfl ?_
  refine O.nil ?_
  refine J.cond rfl (fun h5 => ?_) (fun h5 => ?_)
  ·
    have h6 : ((Cf.numbers line ([99, 97, 108, 108]) Cf.tails).2) = false := not_flip h5
    refine J.seq ?_
    refine J.region ?_
    refine O.p (Pu.build [] [.int .i64 0, .int .i64 0, .int .i64 0, .int .i64 0] #[(0, 1), (1, 1), (2, 1), (3, 1)] Tryd.runUnderlying38 Tryd.zeroValue38 (places38 Tryd.underlying38) rfl (by kernel_rfl)) rfl ?_
    refine O.l0 (Lo.store 2 (vs := [.int .i64 0, .int .i64 0, .int .i64 0, .int .i64 0]) [.int .i64 0, .int .i64 0, .int .i64 0, .int .i64 0] rfl rfl rfl (by exact Tryd.sizeOf38) rfl rfl rfl rfl rfl) ?_
    rintro _ _ rfl
    refine O.p (Pu.assign rfl) rfl ?_
    refine O.nil ?_
    exact J.ret (Fin.ret (rs := [.cell 2 38, .tmp 3]) rfl [_, _] ⟨⟨_, _, 0, 0, _, rfl, (Cel.var 2 rfl), rfl, (Cut.agg [.int .i64 0, .int .i64 0, .int .i64 0, .int .i64 0] Tryd.isAgg38 Tryd.sizeOf38 rfl rfl)⟩, rfl, trivial⟩ [] (by decide) [] rfl ⟨0, 0, 0, 0, Cf.callL_no (by assumption), (by rw [(by assumption : (Cf.numbers line Cf.callW Cf.tails).2 = false)]; rfl), rfl⟩)
  ·
    have h7 : ((Cf.numbers line ([99, 97, 108, 108]) Cf.tails).2) = true := not_flip h5
    refine J.skip ?_
    refine J.seq ?_
    refine J.drawTail 13 Tryd.mixed (by kernel_rfl) ?_
    refine S.p (Pu.move rfl) rfl ?_
    obtain ⟨e8, he8⟩ : ∃ x_, ((Cf.numbers line ([99, 97, 108, 108]) Cf.tails).1)[0]? = some x_ := ⟨_, List.getElem?_eq_getElem (by first | omega | (have hl_ := Cf.numbers_len (by assumption : (Cf.numbers line ([99, 97, 108, 108] : List UInt8) Cf.tails).2 = true); rw [Cf.tails_len] at hl_; omega))⟩
    refine S.q (Qt.idxM Tryd.runUnderlying30 Tryd.sizeOf3 rfl (Src.row 0 rfl) rfl (by first | omega | (have hl_ := Cf.numbers_len (by assumption : (Cf.numbers line ([99, 97, 108, 108] : List UInt8) Cf.tails).2 = true); rw [Cf.tails_len] at hl_; omega)) (by first | omega | (have hl_ := Cf.numbers_len (by assumption : (Cf.numbers line ([99, 97, 108, 108] : List UInt8) Cf.tails).2 = true); rw [Cf.tails_len] at hl_; omega))) rfl ?_
    refine S.q (Qt.ld rfl (Cel.eltM (Src.row 0 rfl) he8) (o := (voff V3 + 0 * 1)) (off := 0) (by omega) (Cut.one Tryd.isAgg3 rfl)) rfl ?_
    refine S.p (Pu.move rfl) rfl ?_
    obtain ⟨e9, he9⟩ : ∃ x_, ((Cf.numbers line ([99, 97, 108, 108]) Cf.tails).1)[1]? = some x_ := ⟨_, List.getElem?_eq_getElem (by first | omega | (have hl_ := Cf.numbers_len (by assumption : (Cf.numbers line ([99, 97, 108, 108] : List UInt8) Cf.tails).2 = true); rw [Cf.tails_len] at hl_; omega))⟩
    refine S.q (Qt.idxM Tryd.runUnderlying30 Tryd.sizeOf3 rfl (Src.row 0 rfl) rfl (by first | omega | (have hl_ := Cf.numbers_len (by assumption : (Cf.numbers line ([99, 97, 108, 108] : List UInt8) Cf.tails).2 = true); rw [Cf.tails_len] at hl_; omega)) (by first | omega | (have hl_ := Cf.numbers_len (by assumption : (Cf.numbers line ([99, 97, 108, 108] : List UInt8) Cf.tails).2 = true); rw [Cf.tails_len] at hl_; omega))) rfl ?_
    refine S.q (Qt.ld rfl (Cel.eltM (Src.row 0 rfl) he9) (o := (voff V3 + 1 * 1)) (off := 0) (by omega) (Cut.one Tryd.isAgg3 rfl)) rfl ?_
    refine S.p (Pu.move rfl) rfl ?_
    obtain ⟨e10, he10⟩ : ∃ x_, ((Cf.numbers line ([99, 97, 108, 108]) Cf.tails).1)[2]? = some x_ := ⟨_, List.getElem?_eq_getElem (by first | omega | (have hl_ := Cf.numbers_len (by assumption : (Cf.numbers line ([99, 97, 108, 108] : List UInt8) Cf.tails).2 = true); rw [Cf.tails_len] at hl_; omega))⟩
    refine S.q (Qt.idxM Tryd.runUnderlying30 Tryd.sizeOf3 rfl (Src.row 0 rfl) rfl (by first | omega | (have hl_ := Cf.numbers_len (by assumption : (Cf.numbers line ([99, 97, 108, 108] : List UInt8) Cf.tails).2 = true); rw [Cf.tails_len] at hl_; omega)) (by first | omega | (have hl_ := Cf.numbers_len (by assumption : (Cf.numbers line ([99, 97, 108, 108] : List UInt8) Cf.tails).2 = true); rw [Cf.tails_len] at hl_; omega))) rfl ?_
    refine S.q (Qt.ld rfl (Cel.eltM (Src.row 0 rfl) he10) (o := (voff V3 + 2 * 1)) (off := 0) (by omega) (Cut.one Tryd.isAgg3 rfl)) rfl ?_
    refine S.p (Pu.move rfl) rfl ?_
    obtain ⟨e11, he11⟩ : ∃ x_, ((Cf.numbers line ([99, 97, 108, 108]) Cf.tails).1)[3]? = some x_ := ⟨_, List.getElem?_eq_getElem (by first | omega | (have hl_ := Cf.numbers_len (by assumption : (Cf.numbers line ([99, 97, 108, 108] : List UInt8) Cf.tails).2 = true); rw [Cf.tails_len] at hl_; omega))⟩
    refine S.q (Qt.idxM Tryd.runUnderlying30 Tryd.sizeOf3 rfl (Src.row 0 rfl) rfl (by first | omega | (have hl_ := Cf.numbers_len (by assumption : (Cf.numbers line ([99, 97, 108, 108] : List UInt8) Cf.tails).2 = true); rw [Cf.tails_len] at hl_; omega)) (by first | omega | (have hl_ := Cf.numbers_len (by assumption : (Cf.numbers line ([99, 97, 108, 108] : List UInt8) Cf.tails).2 = true); rw [Cf.tails_len] at hl_; omega))) rfl ?_
    refine S.q (Qt.ld rfl (Cel.eltM (Src.row 0 rfl) he11) (o := (voff V3 + 3 * 1)) (off := 0) (by omega) (Cut.one Tryd.isAgg3 rfl)) rfl ?_
    refine S.p (Pu.build [(0, .int .i64 e8), (1, .int .i64 e9), (2, .int .i64 e10), (3, .int .i64 e11)] [.int .i64 e8, .int .i64 e9, .int .i64 e10, .int .i64 e11] #[(0, 1), (1, 1), (2, 1), (3, 1)] Tryd.runUnderlying38 Tryd.zeroValue38 (places38 Tryd.underlying38) rfl (by kernel_rfl)) rfl ?_
    refine S.endO ?_
    refine O.l0 (Lo.store 2 (vs := [.int .i64 e8, .int .i64 e9, .int .i64 e10, .int .i64 e11]) [.int .i64 e8, .int .i64 e9, .int .i64 e10, .int .i64 e11] rfl rfl rfl (by exact Tryd.sizeOf38) rfl rfl rfl rfl rfl) ?_
    rintro _ _ rfl
    refine O.p (Pu.assign rfl) rfl ?_
    refine O.nil ?_
    exact J.ret (Fin.ret (rs := [.cell 2 38, .tmp 3]) rfl [_, _] ⟨⟨_, _, 0, 0, _, rfl, (Cel.var 2 rfl), rfl, (Cut.agg [.int .i64 e8, .int .i64 e9, .int .i64 e10, .int .i64 e11] Tryd.isAgg38 Tryd.sizeOf38 rfl rfl)⟩, rfl, trivial⟩ [] (by decide) [] rfl ⟨e8, e9, e10, e11, (Cf.callL_yes (by assumption)).trans (Cf.list4 (Cf.numbers_len (by assumption)) he8 he9 he10 he11), (by rw [(by assumption : (Cf.numbers line Cf.callW Cf.tails).2 = true)]; rfl), rfl⟩)

set_option maxRecDepth 100000 in
theorem cf_Lines (x0 x1 x2 x3 x4 x5 x6 x7 x8 x9 x10 x11 x12 : Int) (cv : Value) (cs : List Cl) (hI : Kn.I64s [x0, x1, x2, x3, x4, x5, x6, x7, x8, x9, x10, x11, x12]) (hC : ∀ c ∈ cs, Cf.ClI c) (hl : cs.length ≤ 100) : Tri Tryd.prog 15 #[.agg #[.int .i64 x0, .int .i64 x1, .int .i64 x2, .int .i64 x3, .int .i64 x4, .int .i64 x5, .int .i64 x6, .int .i64 x7, .int .i64 x8, .int .i64 x9, .int .i64 x10, .int .i64 x11, .int .i64 x12, cv]] [libW, var 0 (Kn.names.map vS) 130, rd cv 4 (cs.map Cl.cells)] [] (fun v L' => L' = [row v 9 1 ((Cf.lines [x0, x1, x2, x3, x4, x5, x6, x7, x8, x9, x10, x11, x12] cs).map encS)]) := by
  refine Tri.enter (args := [.agg #[.int .i64 x0, .int .i64 x1, .int .i64 x2, .int .i64 x3, .int .i64 x4, .int .i64 x5, .int .i64 x6, .int .i64 x7, .int .i64 x8, .int .i64 x9, .int .i64 x10, .int .i64 x11, .int .i64 x12, cv]]) (body := _) 34 Tryd.func15 rfl Tryd.ntmps15 rfl ?_
  intro w0
  refine J.seq ?_
  refine J.region ?_
  refine O.one (Src.ro 2 rfl) (fun hV2 => ?_)
  refine O.l (Lo.box [.int .i64 x0, .int .i64 x1, .int .i64 x2, .int .i64 x3, .int .i64 x4, .int .i64 x5, .int .i64 x6, .int .i64 x7, .int .i64 x8, .int .i64 x9, .int .i64 x10, .int .i64 x11, .int .i64 x12, cv] rfl rfl) rfl ?_
  rintro _ _ ⟨g1, rfl, rfl⟩
  refine O.p (Pu.assign rfl) rfl ?_
  refine O.nil ?_
  refine J.seq ?_
  refine J.drawMix [(1, false), (0, true), (2, true), (3, false), (4, true), (5, false)] [0] [var g1 [.int .i64 x0, .int .i64 x1, .int .i64 x2, .int .i64 x3, .int .i64 x4, .int .i64 x5, .int .i64 x6, .int .i64 x7, .int .i64 x8, .int .i64 x9, .int .i64 x10, .int .i64 x11, .int .i64 x12, cv] 26] Tryd.mixed (by kernel_rfl) (by decide) rfl ?_
  refine Mx.q rfl (Qt.ld rfl (Cel.var 0 rfl) (o := 0) (off := 0) rfl (Cut.agg [.int .i64 x0, .int .i64 x1, .int .i64 x2, .int .i64 x3, .int .i64 x4, .int .i64 x5, .int .i64 x6, .int .i64 x7, .int .i64 x8, .int .i64 x9, .int .i64 x10, .int .i64 x11, .int .i64 x12, cv] Tryd.isAgg26 Tryd.sizeOf26 rfl rfl)) rfl ?_
  refine Mx.l rfl (Lo.call [] (by exact Tryd.call38) rfl cf_heads [] [0] (by decide) rfl [var g1 [.int .i64 x0, .int .i64 x1, .int .i64 x2, .int .i64 x3, .int .i64 x4, .int .i64 x5, .int .i64 x6, .int .i64 x7, .int .i64 x8, .int .i64 x9, .int .i64 x10, .int .i64 x11, .int .i64 x12, cv] 26] rfl (RoOk.ro 1 rfl [] rfl RoOk.nil)) rfl ?_
  rintro v3 _ ⟨_, rfl, rfl⟩
  refine MxK.go [0, 1] [1] [row v3 9 1 (Cf.heads.map encS), var g1 [.int .i64 x0, .int .i64 x1, .int .i64 x2, .int .i64 x3, .int .i64 x4, .int .i64 x5, .int .i64 x6, .int .i64 x7, .int .i64 x8, .int .i64 x9, .int .i64 x10, .int .i64 x11, .int .i64 x12, cv] 26] (by decide) rfl (by decide) rfl ?_
  refine Mx.l rfl (Lo.call [.agg #[.int .i64 x0, .int .i64 x1, .int .i64 x2, .int .i64 x3, .int .i64 x4, .int .i64 x5, .int .i64 x6, .int .i64 x7, .int .i64 x8, .int .i64 x9, .int .i64 x10, .int .i64 x11, .int .i64 x12, cv]] (by exact Tryd.call43) rfl (cf_numbers x0 x1 x2 x3 x4 x5 x6 x7 x8 x9 x10 x11 x12 cv cs) [] [0, 1] (by decide) rfl [row v3 9 1 (Cf.heads.map encS), var g1 [.int .i64 x0, .int .i64 x1, .int .i64 x2, .int .i64 x3, .int .i64 x4, .int .i64 x5, .int .i64 x6, .int .i64 x7, .int .i64 x8, .int .i64 x9, .int .i64 x10, .int .i64 x11, .int .i64 x12, cv] 26] rfl (RoOk.ro 2 rfl [] rfl RoOk.nil)) rfl ?_
  rintro v4 _ ⟨_, rfl, rfl⟩
  refine MxK.all [0, 1, 2] [row v4 3 1 (([x0, x1, x2, x3, x4, x5, x6, x7, x8, x9, x10, x11, x12]).map encZ), row v3 9 1 (Cf.heads.map encS), var g1 [.int .i64 x0, .int .i64 x1, .int .i64 x2, .int .i64 x3, .int .i64 x4, .int .i64 x5, .int .i64 x6, .int .i64 x7, .int .i64 x8, .int .i64 x9, .int .i64 x10, .int .i64 x11, .int .i64 x12, cv] 26] (by decide) rfl (by kernel_rfl) ?_
  refine Mx.call (vs := [str ([115, 101, 114, 118, 105, 99, 101]), v3, v4]) (caps := []) rfl (by exact Tryd.call17) rfl rfl (cf_Row ([115, 101, 114, 118, 105, 99, 101]) v3 Cf.heads v4 ([x0, x1, x2, x3, x4, x5, x6, x7, x8, x9, x10, x11, x12]) (by decide) (fun x h => Nat.le_trans (Cf.heads_le x h) (by decide)) (by decide) (by simp only [List.length_cons, List.length_nil]; omega) hI) (fun _ _ h => h) (RoOk.ro 0 rfl [] rfl (RoOk.of 1 rfl row_rd [] (by decide) rfl (RoOk.of 0 rfl row_rd [] (by decide) rfl RoOk.nil))) rfl ?_
  refine Mx.l rfl (Lo.buildM (s := 1) encS [Cf.row ([115, 101, 114, 118, 105, 99, 101]) Cf.heads ([x0, x1, x2, x3, x4, x5, x6, x7, x8, x9, x10, x11, x12])] [(0, str (Cf.row ([115, 101, 114, 118, 105, 99, 101]) Cf.heads ([x0, x1, x2, x3, x4, x5, x6, x7, x8, x9, x10, x11, x12])))] (by exact Tryd.runUnderlying27) (by exact Tryd.sizeOf9) (by exact Tryd.zeroValue9) rfl rfl rfl (by kernel_rfl) rfl rfl) rfl ?_
  rintro V5 _ rfl
  refine MxK.go [1, 2, 3] [0, 1, 2] [row v4 3 1 (([x0, x1, x2, x3, x4, x5, x6, x7, x8, x9, x10, x11, x12]).map encZ), row v3 9 1 (Cf.heads.map encS), var g1 [.int .i64 x0, .int .i64 x1, .int .i64 x2, .int .i64 x3, .int .i64 x4, .int .i64 x5, .int .i64 x6, .int .i64 x7, .int .i64 x8, .int .i64 x9, .int .i64 x10, .int .i64 x11, .int .i64 x12, cv] 26] (by decide) rfl (by decide) rfl ?_
  refine Mx.p rfl (Pu.assign rfl) rfl ?_
  refine Mx.nil ?_
  refine J.seq ?_
  refine J.seq ?_
  refine J.region ?_
  refine O.p (Pu.fieldAddr (off' := 13) Tryd.runUnderlying26 rfl Tryd.sizeOf24 rfl rfl rfl) rfl ?_
  refine O.q (Qt.ld rfl (Cel.var 3 rfl) (o := 0) (off := 13) rfl (Cut.one Tryd.isAgg24 rfl)) rfl ?_
  refine O.q (Qt.lenM Tryd.runUnderlying24 rfl (Src.ro 2 rfl)) rfl ?_
  refine O.p (Pu.move rfl) rfl ?_
  refine O.nil ?_
  refine J.block ?_
  refine J.loop (X := Nat × Value × List Wd.Bs) (fun ξ => ξ.1 ≤ cs.length ∧ ξ.2.2 = (Cf.lines [x0, x1, x2, x3, x4, x5, x6, x7, x8, x9, x10, x11, x12] cs).take (ξ.1 + 1)) (fun ξ => [(2, Value.slice none 0 0), (3, ξ.2.1), (12, cv), (13, .int .i64 (cs.length : Int)), (14, .int .i64 (ξ.1 : Int))]) (fun ξ => [row ξ.2.1 9 1 (ξ.2.2.map encS)]) (fun ξ => cs.length - ξ.1) ⟨0, V5, [Cf.row ([115, 101, 114, 118, 105, 99, 101]) Cf.heads ([x0, x1, x2, x3, x4, x5, x6, x7, x8, x9, x10, x11, x12])]⟩ (show 0 ≤ cs.length ∧ ([Cf.row ([115, 101, 114, 118, 105, 99, 101]) Cf.heads ([x0, x1, x2, x3, x4, x5, x6, x7, x8, x9, x10, x11, x12])]) = (Cf.lines [x0, x1, x2, x3, x4, x5, x6, x7, x8, x9, x10, x11, x12] cs).take (0 + 1) from ⟨by omega, rfl⟩) ⟨rfl, rfl, rfl, rfl, (congrArg (fun z => some (Value.int .i64 z)) (by first | rfl | omega : (0 : Int) = (0 : Int))), trivial⟩ [0] (by decide) rfl ?_
  rintro ⟨k, V, out⟩ hq6
  obtain ⟨hk, hout⟩ : k ≤ cs.length ∧ out = (Cf.lines [x0, x1, x2, x3, x4, x5, x6, x7, x8, x9, x10, x11, x12] cs).take (k + 1) := hq6
  show J _ _ [(2, Value.slice none 0 0), (3, V), (12, cv), (13, .int .i64 (cs.length : Int)), (14, .int .i64 (k : Int))] [row V 9 1 (out.map encS)]
  refine J.seq ?_
  refine J.region ?_
  refine O.p (Pu.lss rfl rfl) rfl ?_
  refine O.nil ?_
  refine J.seq ?_
  refine J.cond rfl (fun h7 => ?_) (fun h7 => ?_)
  ·
    have p8 := of_decide_eq_true h7
    refine J.skip ?_
    refine J.seq ?_
    refine J.block ?_
    refine J.seq ?_
    refine J.region ?_
    obtain ⟨e9, he9⟩ : ∃ x_, cs[k]? = some x_ := ⟨_, List.getElem?_eq_getElem (by first | omega | decide | (have ho_ := congrArg List.length hout; rw [List.length_take] at ho_; simp only [List.length_append, List.length_cons, List.length_nil]; omega))⟩
    refine O.q (Qt.idxM Tryd.runUnderlying24 Tryd.sizeOf38 rfl (Src.ro 2 rfl) rfl (by first | omega | decide | (have ho_ := congrArg List.length hout; rw [List.length_take] at ho_; simp only [List.length_append, List.length_cons, List.length_nil]; omega)) (by first | omega | decide | (have ho_ := congrArg List.length hout; rw [List.length_take] at ho_; simp only [List.length_append, List.length_cons, List.length_nil]; omega))) rfl ?_
    refine O.q (Qt.ld rfl (Cel.eltM (Src.ro 2 rfl) he9) (o := (voff cv + k * 4)) (off := 0) (by omega) (Cut.agg [.int .i64 e9.to, .int .i64 e9.tier, .int .i64 e9.weight, .int .i64 e9.most] Tryd.isAgg38 Tryd.sizeOf38 rfl rfl)) rfl ?_
    refine O.l (Lo.alloc [.int .i64 0, .int .i64 0, .int .i64 0, .int .i64 0] (by exact Tryd.zeroValue38) rfl) rfl ?_
    rintro _ _ ⟨g10, rfl, rfl⟩
    refine O.l0 (Lo.store 0 (vs := [.int .i64 e9.to, .int .i64 e9.tier, .int .i64 e9.weight, .int .i64 e9.most]) [.int .i64 e9.to, .int .i64 e9.tier, .int .i64 e9.weight, .int .i64 e9.most] rfl rfl rfl (by exact Tryd.sizeOf38) rfl rfl rfl rfl rfl) ?_
    rintro _ _ rfl
    refine O.nil ?_
    refine J.drawA Tryd.mixed ?_
    refine A.edge 1 10 rfl ?_ ?_
    ·
      refine A.mix [(0, false), (2, false), (3, false), (4, false), (5, false), (6, false), (7, false), (8, false), (9, false), (10, true), (1, true), (11, false), (12, true), (13, true), (14, false)] [0] [var g10 [.int .i64 e9.to, .int .i64 e9.tier, .int .i64 e9.weight, .int .i64 e9.most] 38] (by kernel_rfl) (by decide) rfl ?_
      refine Mx.p rfl (Pu.move rfl) rfl ?_
      refine Mx.p rfl (Pu.fieldAddr (off' := 0) Tryd.runUnderlying38 rfl Tryd.sizeOf3 rfl rfl rfl) rfl ?_
      refine Mx.q rfl (Qt.ld rfl (Cel.var 0 rfl) (o := 0) (off := 0) rfl (Cut.one Tryd.isAgg3 rfl)) rfl ?_
      refine Mx.p rfl (Pu.fieldAddr (off' := 1) Tryd.runUnderlying38 rfl Tryd.sizeOf3 rfl rfl rfl) rfl ?_
      refine Mx.q rfl (Qt.ld rfl (Cel.var 0 rfl) (o := 0) (off := 1) rfl (Cut.one Tryd.isAgg3 rfl)) rfl ?_
      refine Mx.p rfl (Pu.fieldAddr (off' := 2) Tryd.runUnderlying38 rfl Tryd.sizeOf3 rfl rfl rfl) rfl ?_
      refine Mx.q rfl (Qt.ld rfl (Cel.var 0 rfl) (o := 0) (off := 2) rfl (Cut.one Tryd.isAgg3 rfl)) rfl ?_
      refine Mx.p rfl (Pu.fieldAddr (off' := 3) Tryd.runUnderlying38 rfl Tryd.sizeOf3 rfl rfl rfl) rfl ?_
      refine Mx.q rfl (Qt.ld rfl (Cel.var 0 rfl) (o := 0) (off := 3) rfl (Cut.one Tryd.isAgg3 rfl)) rfl ?_
      refine Mx.l rfl (Lo.buildM (s := 1) encZ [e9.to, e9.tier, e9.weight, e9.most] [(0, .int .i64 e9.to), (1, .int .i64 e9.tier), (2, .int .i64 e9.weight), (3, .int .i64 e9.most)] (by exact Tryd.runUnderlying30) (by exact Tryd.sizeOf3) (by exact Tryd.zeroValue3) rfl rfl rfl (by kernel_rfl) rfl rfl) rfl ?_
      rintro V11 _ rfl
      refine MxK.go [0, 1] [1] [row V11 3 1 (([e9.to, e9.tier, e9.weight, e9.most]).map encZ), var g10 [.int .i64 e9.to, .int .i64 e9.tier, .int .i64 e9.weight, .int .i64 e9.most] 38] (by decide) rfl (by decide) rfl ?_
      refine Mx.l rfl (Lo.call [] (by exact Tryd.call41) rfl cf_tails [] [0, 1, 2] (by decide) rfl [row V11 3 1 (([e9.to, e9.tier, e9.weight, e9.most]).map encZ), var g10 [.int .i64 e9.to, .int .i64 e9.tier, .int .i64 e9.weight, .int .i64 e9.most] 38, row V 9 1 (out.map encS)] rfl RoOk.nil) rfl ?_
      rintro v12 _ ⟨_, rfl, rfl⟩
      refine MxK.go [0, 1, 2] [1, 2] [row v12 9 1 (Cf.tails.map encS), row V11 3 1 (([e9.to, e9.tier, e9.weight, e9.most]).map encZ), var g10 [.int .i64 e9.to, .int .i64 e9.tier, .int .i64 e9.weight, .int .i64 e9.most] 38] (by decide) rfl (by decide) rfl ?_
      refine Mx.call (vs := [str ([99, 97, 108, 108]), v12, V11]) (caps := []) rfl (by exact Tryd.call17) rfl rfl (cf_Row ([99, 97, 108, 108]) v12 Cf.tails V11 ([e9.to, e9.tier, e9.weight, e9.most]) (by decide) (fun x h => Nat.le_trans (Cf.tails_le x h) (by decide)) (by decide) (by simp only [List.length_cons, List.length_nil]; omega) (hC _ (List.mem_of_getElem? (by assumption)))) (fun _ _ h => h) (RoOk.ro 0 rfl [] rfl (RoOk.of 0 rfl row_rd [] (by decide) rfl (RoOk.of 1 rfl row_rd [] (by decide) rfl RoOk.nil))) rfl ?_
      refine Mx.l rfl (Lo.buildM (s := 1) encS [Cf.row ([99, 97, 108, 108]) Cf.tails ([e9.to, e9.tier, e9.weight, e9.most])] [(0, str (Cf.row ([99, 97, 108, 108]) Cf.tails ([e9.to, e9.tier, e9.weight, e9.most])))] (by exact Tryd.runUnderlying27) (by exact Tryd.sizeOf9) (by exact Tryd.zeroValue9) rfl rfl rfl (by kernel_rfl) rfl rfl) rfl ?_
      rintro V13 _ rfl
      refine MxK.go [1, 2, 3] [0, 1, 2] [row v12 9 1 (Cf.tails.map encS), row V11 3 1 (([e9.to, e9.tier, e9.weight, e9.most]).map encZ), var g10 [.int .i64 e9.to, .int .i64 e9.tier, .int .i64 e9.weight, .int .i64 e9.most] 38] (by decide) rfl (by decide) rfl ?_
      refine Mx.l rfl (Lo.appendM (s := 1) 4 (by exact Tryd.underlying27) (by exact (info9).1) (by exact (info9).2.1) (by exact (info9).2.2.1) (by exact (info9).2.2.2) rfl rfl rfl rfl rfl (Src.row 0 rfl) encS.one (by first | omega | decide | (have ho_ := congrArg List.length hout; rw [List.length_take] at ho_; simp only [List.length_append, List.length_cons, List.length_nil]; omega)) (by first | omega | decide | (have ho_ := congrArg List.length hout; rw [List.length_take] at ho_; simp only [List.length_append, List.length_cons, List.length_nil]; omega))) rfl ?_
      rintro V14 _ rfl
      refine MxK.go [1, 2, 3] [0, 1, 2] [row v12 9 1 (Cf.tails.map encS), row V11 3 1 (([e9.to, e9.tier, e9.weight, e9.most]).map encZ), var g10 [.int .i64 e9.to, .int .i64 e9.tier, .int .i64 e9.weight, .int .i64 e9.most] 38] (by decide) rfl (by decide) rfl ?_
      refine Mx.p rfl (Pu.assign rfl) rfl ?_
      refine Mx.nil ?_
      refine J.blk ?_
      refine J.region ?_
      refine O.p (Pu.add' rfl rfl (by first | omega | (simp only [List.length_append, List.length_cons, List.length_nil, List.length_set]; omega))) rfl ?_
      refine O.p (Pu.move rfl) rfl ?_
      refine O.nil ?_
      exact J.lp ⟨k + 1, V14, out ++ ([Cf.row ([99, 97, 108, 108]) Cf.tails ([e9.to, e9.tier, e9.weight, e9.most])])⟩ (show (k + 1) ≤ cs.length ∧ (out ++ ([Cf.row ([99, 97, 108, 108]) Cf.tails ([e9.to, e9.tier, e9.weight, e9.most])])) = (Cf.lines [x0, x1, x2, x3, x4, x5, x6, x7, x8, x9, x10, x11, x12] cs).take ((k + 1) + 1) from ⟨by omega, (by rw [hout]; exact (Cf.lines_next he9).symm)⟩) (show cs.length - (k + 1) < cs.length - k from (by first | omega | decide | (have ho_ := congrArg List.length hout; rw [List.length_take] at ho_; simp only [List.length_append, List.length_cons, List.length_nil]; omega))) ⟨rfl, rfl, rfl, rfl, (congrArg (fun z => some (Value.int .i64 z)) (by first | rfl | omega : ((k : Int) + 1 : Int) = ((k + 1) : Int))), trivial⟩ [4] (by decide) rfl
    ·
      refine A.mix [(0, false), (2, false), (3, false), (4, false), (5, false), (6, false), (7, false), (8, false), (9, false), (1, true), (10, true), (11, false), (12, true), (13, true), (14, false)] [0] [var g10 [.int .i64 e9.to, .int .i64 e9.tier, .int .i64 e9.weight, .int .i64 e9.most] 38] (by kernel_rfl) (by decide) rfl ?_
      refine Mx.p rfl (Pu.move rfl) rfl ?_
      refine Mx.p rfl (Pu.fieldAddr (off' := 0) Tryd.runUnderlying38 rfl Tryd.sizeOf3 rfl rfl rfl) rfl ?_
      refine Mx.q rfl (Qt.ld rfl (Cel.var 0 rfl) (o := 0) (off := 0) rfl (Cut.one Tryd.isAgg3 rfl)) rfl ?_
      refine Mx.p rfl (Pu.fieldAddr (off' := 1) Tryd.runUnderlying38 rfl Tryd.sizeOf3 rfl rfl rfl) rfl ?_
      refine Mx.q rfl (Qt.ld rfl (Cel.var 0 rfl) (o := 0) (off := 1) rfl (Cut.one Tryd.isAgg3 rfl)) rfl ?_
      refine Mx.p rfl (Pu.fieldAddr (off' := 2) Tryd.runUnderlying38 rfl Tryd.sizeOf3 rfl rfl rfl) rfl ?_
      refine Mx.q rfl (Qt.ld rfl (Cel.var 0 rfl) (o := 0) (off := 2) rfl (Cut.one Tryd.isAgg3 rfl)) rfl ?_
      refine Mx.p rfl (Pu.fieldAddr (off' := 3) Tryd.runUnderlying38 rfl Tryd.sizeOf3 rfl rfl rfl) rfl ?_
      refine Mx.q rfl (Qt.ld rfl (Cel.var 0 rfl) (o := 0) (off := 3) rfl (Cut.one Tryd.isAgg3 rfl)) rfl ?_
      refine Mx.l rfl (Lo.call [] (by exact Tryd.call41) rfl cf_tails [] [0, 1] (by decide) rfl [var g10 [.int .i64 e9.to, .int .i64 e9.tier, .int .i64 e9.weight, .int .i64 e9.most] 38, row V 9 1 (out.map encS)] rfl RoOk.nil) rfl ?_
      rintro v15 _ ⟨_, rfl, rfl⟩
      refine MxK.go [0, 1] [1] [row v15 9 1 (Cf.tails.map encS), var g10 [.int .i64 e9.to, .int .i64 e9.tier, .int .i64 e9.weight, .int .i64 e9.most] 38] (by decide) rfl (by decide) rfl ?_
      refine Mx.l rfl (Lo.buildM (s := 1) encZ [e9.to, e9.tier, e9.weight, e9.most] [(0, .int .i64 e9.to), (1, .int .i64 e9.tier), (2, .int .i64 e9.weight), (3, .int .i64 e9.most)] (by exact Tryd.runUnderlying30) (by exact Tryd.sizeOf3) (by exact Tryd.zeroValue3) rfl rfl rfl (by kernel_rfl) rfl rfl) rfl ?_
      rintro V16 _ rfl
      refine MxK.go [0, 1, 2] [1, 2] [row V16 3 1 (([e9.to, e9.tier, e9.weight, e9.most]).map encZ), row v15 9 1 (Cf.tails.map encS), var g10 [.int .i64 e9.to, .int .i64 e9.tier, .int .i64 e9.weight, .int .i64 e9.most] 38] (by decide) rfl (by decide) rfl ?_
      refine Mx.call (vs := [str ([99, 97, 108, 108]), v15, V16]) (caps := []) rfl (by exact Tryd.call17) rfl rfl (cf_Row ([99, 97, 108, 108]) v15 Cf.tails V16 ([e9.to, e9.tier, e9.weight, e9.most]) (by decide) (fun x h => Nat.le_trans (Cf.tails_le x h) (by decide)) (by decide) (by simp only [List.length_cons, List.length_nil]; omega) (hC _ (List.mem_of_getElem? (by assumption)))) (fun _ _ h => h) (RoOk.ro 0 rfl [] rfl (RoOk.of 1 rfl row_rd [] (by decide) rfl (RoOk.of 0 rfl row_rd [] (by decide) rfl RoOk.nil))) rfl ?_
      refine Mx.l rfl (Lo.buildM (s := 1) encS [Cf.row ([99, 97, 108, 108]) Cf.tails ([e9.to, e9.tier, e9.weight, e9.most])] [(0, str (Cf.row ([99, 97, 108, 108]) Cf.tails ([e9.to, e9.tier, e9.weight, e9.most])))] (by exact Tryd.runUnderlying27) (by exact Tryd.sizeOf9) (by exact Tryd.zeroValue9) rfl rfl rfl (by kernel_rfl) rfl rfl) rfl ?_
      rintro V17 _ rfl
      refine MxK.go [1, 2, 3] [0, 1, 2] [row V16 3 1 (([e9.to, e9.tier, e9.weight, e9.most]).map encZ), row v15 9 1 (Cf.tails.map encS), var g10 [.int .i64 e9.to, .int .i64 e9.tier, .int .i64 e9.weight, .int .i64 e9.most] 38] (by decide) rfl (by decide) rfl ?_
      refine Mx.l rfl (Lo.appendM (s := 1) 4 (by exact Tryd.underlying27) (by exact (info9).1) (by exact (info9).2.1) (by exact (info9).2.2.1) (by exact (info9).2.2.2) rfl rfl rfl rfl rfl (Src.row 0 rfl) encS.one (by first | omega | decide | (have ho_ := congrArg List.length hout; rw [List.length_take] at ho_; simp only [List.length_append, List.length_cons, List.length_nil]; omega)) (by first | omega | decide | (have ho_ := congrArg List.length hout; rw [List.length_take] at ho_; simp only [List.length_append, List.length_cons, List.length_nil]; omega))) rfl ?_
      rintro V18 _ rfl
      refine MxK.go [1, 2, 3] [0, 1, 2] [row V16 3 1 (([e9.to, e9.tier, e9.weight, e9.most]).map encZ), row v15 9 1 (Cf.tails.map encS), var g10 [.int .i64 e9.to, .int .i64 e9.tier, .int .i64 e9.weight, .int .i64 e9.most] 38] (by decide) rfl (by decide) rfl ?_
      refine Mx.p rfl (Pu.assign rfl) rfl ?_
      refine Mx.nil ?_
      refine J.blk ?_
      refine J.region ?_
      refine O.p (Pu.add' rfl rfl (by first | omega | (simp only [List.length_append, List.length_cons, List.length_nil, List.length_set]; omega))) rfl ?_
      refine O.p (Pu.move rfl) rfl ?_
      refine O.nil ?_
      exact J.lp ⟨k + 1, V18, out ++ ([Cf.row ([99, 97, 108, 108]) Cf.tails ([e9.to, e9.tier, e9.weight, e9.most])])⟩ (show (k + 1) ≤ cs.length ∧ (out ++ ([Cf.row ([99, 97, 108, 108]) Cf.tails ([e9.to, e9.tier, e9.weight, e9.most])])) = (Cf.lines [x0, x1, x2, x3, x4, x5, x6, x7, x8, x9, x10, x11, x12] cs).take ((k + 1) + 1) from ⟨by omega, (by rw [hout]; exact (Cf.lines_next he9).symm)⟩) (show cs.length - (k + 1) < cs.length - k from (by first | omega | decide | (have ho_ := congrArg List.length hout; rw [List.length_take] at ho_; simp only [List.length_append, List.length_cons, List.length_nil]; omega))) ⟨rfl, rfl, rfl, rfl, (congrArg (fun z => some (Value.int .i64 z)) (by first | rfl | omega : ((k : Int) + 1 : Int) = ((k + 1) : Int))), trivial⟩ [4] (by decide) rfl
  ·
    have p19 := of_decide_eq_false h7
    refine J.exit _ rfl ?_
    refine J.seq ?_
    refine J.region ?_
    refine O.p (Pu.move rfl) rfl ?_
    refine O.p (Pu.assign rfl) rfl ?_
    refine O.nil ?_
    exact J.ret (Fin.ret (rs := [.tmp 2]) rfl [_] ⟨rfl, trivial⟩ [0] (by decide) [row V 9 1 (out.map encS)] rfl (congrArg (fun (o : List Wd.Bs) => ([row V 9 1 (o.map encS)] : List Sp)) (show out = Cf.lines [x0, x1, x2, x3, x4, x5, x6, x7, x8, x9, x10, x11, x12] cs from (by rw [hout, Cf.lines_all (by omega)]))))

set_option maxRecDepth 100000 in
theorem r28_Lines (x0 x1 x2 x3 x4 x5 x6 x7 x8 x9 x10 x11 x12 : Int) (cv : Value) (cs : List Cl) (hI : Kn.I64s [x0, x1, x2, x3, x4, x5, x6, x7, x8, x9, x10, x11, x12]) (hC : ∀ c ∈ cs, Cf.ClI c) (hl : cs.length ≤ 100) : Tri Tryd.prog 16 #[.agg #[.int .i64 x0, .int .i64 x1, .int .i64 x2, .int .i64 x3, .int .i64 x4, .int .i64 x5, .int .i64 x6, .int .i64 x7, .int .i64 x8, .int .i64 x9, .int .i64 x10, .int .i64 x11, .int .i64 x12, cv]] [rd cv 4 (cs.map Cl.cells)] [] (fun v L' => L' = [row v 9 1 ((Cf.lines [x0, x1, x2, x3, x4, x5, x6, x7, x8, x9, x10, x11, x12] cs).map encS)]) := by
  refine Tri.enter (args := [.agg #[.int .i64 x0, .int .i64 x1, .int .i64 x2, .int .i64 x3, .int .i64 x4, .int .i64 x5, .int .i64 x6, .int .i64 x7, .int .i64 x8, .int .i64 x9, .int .i64 x10, .int .i64 x11, .int .i64 x12, cv]]) (body := _) 38 Tryd.func16 rfl Tryd.ntmps16 rfl ?_
  intro w0
  refine J.seq ?_
  refine J.region ?_
  refine O.one (Src.ro 0 rfl) (fun hV2 => ?_)
  refine O.l (Lo.box [.int .i64 x0, .int .i64 x1, .int .i64 x2, .int .i64 x3, .int .i64 x4, .int .i64 x5, .int .i64 x6, .int .i64 x7, .int .i64 x8, .int .i64 x9, .int .i64 x10, .int .i64 x11, .int .i64 x12, cv] rfl rfl) rfl ?_
  rintro _ _ ⟨g1, rfl, rfl⟩
  refine O.p (Pu.assign rfl) rfl ?_
  refine O.nil ?_
  refine J.seq ?_
  refine J.drawMix [(1, false), (0, true), (2, true), (3, false), (4, true), (5, false)] [0] [var g1 [.int .i64 x0, .int .i64 x1, .int .i64 x2, .int .i64 x3, .int .i64 x4, .int .i64 x5, .int .i64 x6, .int .i64 x7, .int .i64 x8, .int .i64 x9, .int .i64 x10, .int .i64 x11, .int .i64 x12, cv] 26] Tryd.mixed (by kernel_rfl) (by decide) rfl ?_
  refine Mx.q rfl (Qt.ld rfl (Cel.var 0 rfl) (o := 0) (off := 0) rfl (Cut.agg [.int .i64 x0, .int .i64 x1, .int .i64 x2, .int .i64 x3, .int .i64 x4, .int .i64 x5, .int .i64 x6, .int .i64 x7, .int .i64 x8, .int .i64 x9, .int .i64 x10, .int .i64 x11, .int .i64 x12, cv] Tryd.isAgg26 Tryd.sizeOf26 rfl rfl)) rfl ?_
  refine Mx.l rfl (Lo.call [] (by exact Tryd.call39) rfl r28_heads [] [0] (by decide) rfl [var g1 [.int .i64 x0, .int .i64 x1, .int .i64 x2, .int .i64 x3, .int .i64 x4, .int .i64 x5, .int .i64 x6, .int .i64 x7, .int .i64 x8, .int .i64 x9, .int .i64 x10, .int .i64 x11, .int .i64 x12, cv] 26] rfl RoOk.nil) rfl ?_
  rintro v3 _ ⟨_, rfl, rfl⟩
  refine MxK.go [0, 1] [1] [row v3 9 1 (Cf.heads.map encS), var g1 [.int .i64 x0, .int .i64 x1, .int .i64 x2, .int .i64 x3, .int .i64 x4, .int .i64 x5, .int .i64 x6, .int .i64 x7, .int .i64 x8, .int .i64 x9, .int .i64 x10, .int .i64 x11, .int .i64 x12, cv] 26] (by decide) rfl (by decide) rfl ?_
  refine Mx.l rfl (Lo.call [.agg #[.int .i64 x0, .int .i64 x1, .int .i64 x2, .int .i64 x3, .int .i64 x4, .int .i64 x5, .int .i64 x6, .int .i64 x7, .int .i64 x8, .int .i64 x9, .int .i64 x10, .int .i64 x11, .int .i64 x12, cv]] (by exact Tryd.call44) rfl (r28_numbers x0 x1 x2 x3 x4 x5 x6 x7 x8 x9 x10 x11 x12 cv cs) [] [0, 1] (by decide) rfl [row v3 9 1 (Cf.heads.map encS), var g1 [.int .i64 x0, .int .i64 x1, .int .i64 x2, .int .i64 x3, .int .i64 x4, .int .i64 x5, .int .i64 x6, .int .i64 x7, .int .i64 x8, .int .i64 x9, .int .i64 x10, .int .i64 x11, .int .i64 x12, cv] 26] rfl (RoOk.ro 0 rfl [] rfl RoOk.nil)) rfl ?_
  rintro v4 _ ⟨_, rfl, rfl⟩
  refine MxK.all [0, 1, 2] [row v4 3 1 (([x0, x1, x2, x3, x4, x5, x6, x7, x8, x9, x10, x11, x12]).map encZ), row v3 9 1 (Cf.heads.map encS), var g1 [.int .i64 x0, .int .i64 x1, .int .i64 x2, .int .i64 x3, .int .i64 x4, .int .i64 x5, .int .i64 x6, .int .i64 x7, .int .i64 x8, .int .i64 x9, .int .i64 x10, .int .i64 x11, .int .i64 x12, cv] 26] (by decide) rfl (by kernel_rfl) ?_
  refine Mx.call (vs := [str ([115, 101, 114, 118, 105, 99, 101]), v3, v4]) (caps := []) rfl (by exact Tryd.call18) rfl rfl (r28_Row ([115, 101, 114, 118, 105, 99, 101]) v3 Cf.heads v4 ([x0, x1, x2, x3, x4, x5, x6, x7, x8, x9, x10, x11, x12]) (by decide) (fun x h => Nat.le_trans (Cf.heads_le x h) (by decide)) (by decide) (by simp only [List.length_cons, List.length_nil]; omega) hI) (fun _ _ h => h) (RoOk.of 1 rfl row_rd [] (by decide) rfl (RoOk.of 0 rfl row_rd [] (by decide) rfl RoOk.nil)) rfl ?_
  refine Mx.l rfl (Lo.buildM (s := 1) encS [Cf.row ([115, 101, 114, 118, 105, 99, 101]) Cf.heads ([x0, x1, x2, x3, x4, x5, x6, x7, x8, x9, x10, x11, x12])] [(0, str (Cf.row ([115, 101, 114, 118, 105, 99, 101]) Cf.heads ([x0, x1, x2, x3, x4, x5, x6, x7, x8, x9, x10, x11, x12])))] (by exact Tryd.runUnderlying27) (by exact Tryd.sizeOf9) (by exact Tryd.zeroValue9) rfl rfl rfl (by kernel_rfl) rfl rfl) rfl ?_
  rintro V5 _ rfl
  refine MxK.go [1, 2, 3] [0, 1, 2] [row v4 3 1 (([x0, x1, x2, x3, x4, x5, x6, x7, x8, x9, x10, x11, x12]).map encZ), row v3 9 1 (Cf.heads.map encS), var g1 [.int .i64 x0, .int .i64 x1, .int .i64 x2, .int .i64 x3, .int .i64 x4, .int .i64 x5, .int .i64 x6, .int .i64 x7, .int .i64 x8, .int .i64 x9, .int .i64 x10, .int .i64 x11, .int .i64 x12, cv] 26] (by decide) rfl (by decide) rfl ?_
  refine Mx.p rfl (Pu.assign rfl) rfl ?_
  refine Mx.nil ?_
  refine J.seq ?_
  refine J.seq ?_
  refine J.region ?_
  refine O.p (Pu.assign rfl) rfl ?_
  refine O.nil ?_
  refine J.block ?_
  refine J.loop (X := Nat × Value × List Wd.Bs) (fun ξ => ξ.1 ≤ cs.length ∧ ξ.2.2 = (Cf.lines [x0, x1, x2, x3, x4, x5, x6, x7, x8, x9, x10, x11, x12] cs).take (ξ.1 + 1)) (fun ξ => [(1, .pointer (some ⟨g1, 0, none⟩)), (2, Value.slice none 0 0), (3, ξ.2.1), (4, .int .i64 (ξ.1 : Int))]) (fun ξ => [row ξ.2.1 9 1 (ξ.2.2.map encS), var g1 [.int .i64 x0, .int .i64 x1, .int .i64 x2, .int .i64 x3, .int .i64 x4, .int .i64 x5, .int .i64 x6, .int .i64 x7, .int .i64 x8, .int .i64 x9, .int .i64 x10, .int .i64 x11, .int .i64 x12, cv] 26]) (fun ξ => cs.length - ξ.1) ⟨0, V5, [Cf.row ([115, 101, 114, 118, 105, 99, 101]) Cf.heads ([x0, x1, x2, x3, x4, x5, x6, x7, x8, x9, x10, x11, x12])]⟩ (show 0 ≤ cs.length ∧ ([Cf.row ([115, 101, 114, 118, 105, 99, 101]) Cf.heads ([x0, x1, x2, x3, x4, x5, x6, x7, x8, x9, x10, x11, x12])]) = (Cf.lines [x0, x1, x2, x3, x4, x5, x6, x7, x8, x9, x10, x11, x12] cs).take (0 + 1) from ⟨by omega, rfl⟩) ⟨rfl, rfl, rfl, (congrArg (fun z => some (Value.int .i64 z)) (by first | rfl | omega : (0 : Int) = (0 : Int))), trivial⟩ [0, 3] (by decide) rfl ?_
  rintro ⟨k, V, out⟩ hq6
  obtain ⟨hk, hout⟩ : k ≤ cs.length ∧ out = (Cf.lines [x0, x1, x2, x3, x4, x5, x6, x7, x8, x9, x10, x11, x12] cs).take (k + 1) := hq6
  show J _ _ [(1, .pointer (some ⟨g1, 0, none⟩)), (2, Value.slice none 0 0), (3, V), (4, .int .i64 (k : Int))] [row V 9 1 (out.map encS), var g1 [.int .i64 x0, .int .i64 x1, .int .i64 x2, .int .i64 x3, .int .i64 x4, .int .i64 x5, .int .i64 x6, .int .i64 x7, .int .i64 x8, .int .i64 x9, .int .i64 x10, .int .i64 x11, .int .i64 x12, cv] 26]
  refine J.seq ?_
  refine J.seq ?_
  refine J.region ?_
  refine O.p (Pu.move rfl) rfl ?_
  refine O.p (Pu.fieldAddr (off' := 13) Tryd.runUnderlying26 rfl Tryd.sizeOf24 rfl rfl rfl) rfl ?_
  refine O.q (Qt.ld rfl (Cel.var 1 rfl) (o := 0) (off := 13) rfl (Cut.one Tryd.isAgg24 rfl)) rfl ?_
  refine O.q (Qt.lenM Tryd.runUnderlying24 rfl (Src.ro 0 rfl)) rfl ?_
  refine O.p (Pu.lss rfl rfl) rfl ?_
  refine O.nil ?_
  refine J.cond rfl (fun h7 => ?_) (fun h7 => ?_)
  ·
    have p8 := of_decide_eq_true h7
    refine J.skip ?_
    refine J.seq ?_
    refine J.block ?_
    refine J.seq ?_
    refine J.region ?_
    refine O.p (Pu.fieldAddr (off' := 13) Tryd.runUnderlying26 rfl Tryd.sizeOf24 rfl rfl rfl) rfl ?_
    refine O.q (Qt.ld rfl (Cel.var 1 rfl) (o := 0) (off := 13) rfl (Cut.one Tryd.isAgg24 rfl)) rfl ?_
    refine O.p (Pu.move rfl) rfl ?_
    obtain ⟨e9, he9⟩ : ∃ x_, cs[k]? = some x_ := ⟨_, List.getElem?_eq_getElem (by first | omega | decide | (have ho_ := congrArg List.length hout; rw [List.length_take] at ho_; simp only [List.length_append, List.length_cons, List.length_nil]; omega))⟩
    refine O.q (Qt.idxM Tryd.runUnderlying24 Tryd.sizeOf38 rfl (Src.ro 0 rfl) rfl (by first | omega | decide | (have ho_ := congrArg List.length hout; rw [List.length_take] at ho_; simp only [List.length_append, List.length_cons, List.length_nil]; omega)) (by first | omega | decide | (have ho_ := congrArg List.length hout; rw [List.length_take] at ho_; simp only [List.length_append, List.length_cons, List.length_nil]; omega))) rfl ?_
    refine O.q (Qt.ld rfl (Cel.eltM (Src.ro 0 rfl) he9) (o := (voff cv + k * 4)) (off := 0) (by omega) (Cut.agg [.int .i64 e9.to, .int .i64 e9.tier, .int .i64 e9.weight, .int .i64 e9.most] Tryd.isAgg38 Tryd.sizeOf38 rfl rfl)) rfl ?_
    refine O.l (Lo.alloc [.int .i64 0, .int .i64 0, .int .i64 0, .int .i64 0] (by exact Tryd.zeroValue38) rfl) rfl ?_
    rintro _ _ ⟨g10, rfl, rfl⟩
    refine O.l0 (Lo.store 0 (vs := [.int .i64 e9.to, .int .i64 e9.tier, .int .i64 e9.weight, .int .i64 e9.most]) [.int .i64 e9.to, .int .i64 e9.tier, .int .i64 e9.weight, .int .i64 e9.most] rfl rfl rfl (by exact Tryd.sizeOf38) rfl rfl rfl rfl rfl) ?_
    rintro _ _ rfl
    refine O.nil ?_
    refine J.drawA Tryd.mixed ?_
    refine A.edge 1 10 rfl ?_ ?_
    ·
      refine A.mix [(0, false), (2, false), (3, false), (4, false), (5, false), (6, false), (7, false), (8, false), (9, false), (10, true), (1, true), (11, false), (12, true), (13, true), (14, false)] [0] [var g10 [.int .i64 e9.to, .int .i64 e9.tier, .int .i64 e9.weight, .int .i64 e9.most] 38] (by kernel_rfl) (by decide) rfl ?_
      refine Mx.p rfl (Pu.move rfl) rfl ?_
      refine Mx.p rfl (Pu.fieldAddr (off' := 0) Tryd.runUnderlying38 rfl Tryd.sizeOf3 rfl rfl rfl) rfl ?_
      refine Mx.q rfl (Qt.ld rfl (Cel.var 0 rfl) (o := 0) (off := 0) rfl (Cut.one Tryd.isAgg3 rfl)) rfl ?_
      refine Mx.p rfl (Pu.fieldAddr (off' := 1) Tryd.runUnderlying38 rfl Tryd.sizeOf3 rfl rfl rfl) rfl ?_
      refine Mx.q rfl (Qt.ld rfl (Cel.var 0 rfl) (o := 0) (off := 1) rfl (Cut.one Tryd.isAgg3 rfl)) rfl ?_
      refine Mx.p rfl (Pu.fieldAddr (off' := 2) Tryd.runUnderlying38 rfl Tryd.sizeOf3 rfl rfl rfl) rfl ?_
      refine Mx.q rfl (Qt.ld rfl (Cel.var 0 rfl) (o := 0) (off := 2) rfl (Cut.one Tryd.isAgg3 rfl)) rfl ?_
      refine Mx.p rfl (Pu.fieldAddr (off' := 3) Tryd.runUnderlying38 rfl Tryd.sizeOf3 rfl rfl rfl) rfl ?_
      refine Mx.q rfl (Qt.ld rfl (Cel.var 0 rfl) (o := 0) (off := 3) rfl (Cut.one Tryd.isAgg3 rfl)) rfl ?_
      refine Mx.l rfl (Lo.buildM (s := 1) encZ [e9.to, e9.tier, e9.weight, e9.most] [(0, .int .i64 e9.to), (1, .int .i64 e9.tier), (2, .int .i64 e9.weight), (3, .int .i64 e9.most)] (by exact Tryd.runUnderlying30) (by exact Tryd.sizeOf3) (by exact Tryd.zeroValue3) rfl rfl rfl (by kernel_rfl) rfl rfl) rfl ?_
      rintro V11 _ rfl
      refine MxK.go [0, 1] [1] [row V11 3 1 (([e9.to, e9.tier, e9.weight, e9.most]).map encZ), var g10 [.int .i64 e9.to, .int .i64 e9.tier, .int .i64 e9.weight, .int .i64 e9.most] 38] (by decide) rfl (by decide) rfl ?_
      refine Mx.l rfl (Lo.call [] (by exact Tryd.call42) rfl r28_tails [] [0, 1, 2, 3] (by decide) rfl [row V11 3 1 (([e9.to, e9.tier, e9.weight, e9.most]).map encZ), var g10 [.int .i64 e9.to, .int .i64 e9.tier, .int .i64 e9.weight, .int .i64 e9.most] 38, row V 9 1 (out.map encS), var g1 [.int .i64 x0, .int .i64 x1, .int .i64 x2, .int .i64 x3, .int .i64 x4, .int .i64 x5, .int .i64 x6, .int .i64 x7, .int .i64 x8, .int .i64 x9, .int .i64 x10, .int .i64 x11, .int .i64 x12, cv] 26] rfl RoOk.nil) rfl ?_
      rintro v12 _ ⟨_, rfl, rfl⟩
      refine MxK.go [0, 1, 2] [1, 2] [row v12 9 1 (Cf.tails.map encS), row V11 3 1 (([e9.to, e9.tier, e9.weight, e9.most]).map encZ), var g10 [.int .i64 e9.to, .int .i64 e9.tier, .int .i64 e9.weight, .int .i64 e9.most] 38] (by decide) rfl (by decide) rfl ?_
      refine Mx.call (vs := [str ([99, 97, 108, 108]), v12, V11]) (caps := []) rfl (by exact Tryd.call18) rfl rfl (r28_Row ([99, 97, 108, 108]) v12 Cf.tails V11 ([e9.to, e9.tier, e9.weight, e9.most]) (by decide) (fun x h => Nat.le_trans (Cf.tails_le x h) (by decide)) (by decide) (by simp only [List.length_cons, List.length_nil]; omega) (hC _ (List.mem_of_getElem? (by assumption)))) (fun _ _ h => h) (RoOk.of 0 rfl row_rd [] (by decide) rfl (RoOk.of 1 rfl row_rd [] (by decide) rfl RoOk.nil)) rfl ?_
      refine Mx.l rfl (Lo.buildM (s := 1) encS [Cf.row ([99, 97, 108, 108]) Cf.tails ([e9.to, e9.tier, e9.weight, e9.most])] [(0, str (Cf.row ([99, 97, 108, 108]) Cf.tails ([e9.to, e9.tier, e9.weight, e9.most])))] (by exact Tryd.runUnderlying27) (by exact Tryd.sizeOf9) (by exact Tryd.zeroValue9) rfl rfl rfl (by kernel_rfl) rfl rfl) rfl ?_
      rintro V13 _ rfl
      refine MxK.go [1, 2, 3] [0, 1, 2] [row v12 9 1 (Cf.tails.map encS), row V11 3 1 (([e9.to, e9.tier, e9.weight, e9.most]).map encZ), var g10 [.int .i64 e9.to, .int .i64 e9.tier, .int .i64 e9.weight, .int .i64 e9.most] 38] (by decide) rfl (by decide) rfl ?_
      refine Mx.l rfl (Lo.appendM (s := 1) 4 (by exact Tryd.underlying27) (by exact (info9).1) (by exact (info9).2.1) (by exact (info9).2.2.1) (by exact (info9).2.2.2) rfl rfl rfl rfl rfl (Src.row 0 rfl) encS.one (by first | omega | decide | (have ho_ := congrArg List.length hout; rw [List.length_take] at ho_; simp only [List.length_append, List.length_cons, List.length_nil]; omega)) (by first | omega | decide | (have ho_ := congrArg List.length hout; rw [List.length_take] at ho_; simp only [List.length_append, List.length_cons, List.length_nil]; omega))) rfl ?_
      rintro V14 _ rfl
      refine MxK.go [1, 2, 3] [0, 1, 2] [row v12 9 1 (Cf.tails.map encS), row V11 3 1 (([e9.to, e9.tier, e9.weight, e9.most]).map encZ), var g10 [.int .i64 e9.to, .int .i64 e9.tier, .int .i64 e9.weight, .int .i64 e9.most] 38] (by decide) rfl (by decide) rfl ?_
      refine Mx.p rfl (Pu.assign rfl) rfl ?_
      refine Mx.nil ?_
      refine J.blk ?_
      refine J.region ?_
      refine O.p (Pu.move rfl) rfl ?_
      refine O.p (Pu.add' rfl rfl (by first | omega | (simp only [List.length_append, List.length_cons, List.length_nil, List.length_set]; omega))) rfl ?_
      refine O.p (Pu.assign rfl) rfl ?_
      refine O.nil ?_
      exact J.lp ⟨k + 1, V14, out ++ ([Cf.row ([99, 97, 108, 108]) Cf.tails ([e9.to, e9.tier, e9.weight, e9.most])])⟩ (show (k + 1) ≤ cs.length ∧ (out ++ ([Cf.row ([99, 97, 108, 108]) Cf.tails ([e9.to, e9.tier, e9.weight, e9.most])])) = (Cf.lines [x0, x1, x2, x3, x4, x5, x6, x7, x8, x9, x10, x11, x12] cs).take ((k + 1) + 1) from ⟨by omega, (by rw [hout]; exact (Cf.lines_next he9).symm)⟩) (show cs.length - (k + 1) < cs.length - k from (by first | omega | decide | (have ho_ := congrArg List.length hout; rw [List.length_take] at ho_; simp only [List.length_append, List.length_cons, List.length_nil]; omega))) ⟨rfl, rfl, rfl, (congrArg (fun z => some (Value.int .i64 z)) (by first | rfl | omega : ((k : Int) + 1 : Int) = ((k + 1) : Int))), trivial⟩ [4, 5] (by decide) rfl
    ·
      refine A.mix [(0, false), (2, false), (3, false), (4, false), (5, false), (6, false), (7, false), (8, false), (9, false), (1, true), (10, true), (11, false), (12, true), (13, true), (14, false)] [0] [var g10 [.int .i64 e9.to, .int .i64 e9.tier, .int .i64 e9.weight, .int .i64 e9.most] 38] (by kernel_rfl) (by decide) rfl ?_
      refine Mx.p rfl (Pu.move rfl) rfl ?_
      refine Mx.p rfl (Pu.fieldAddr (off' := 0) Tryd.runUnderlying38 rfl Tryd.sizeOf3 rfl rfl rfl) rfl ?_
      refine Mx.q rfl (Qt.ld rfl (Cel.var 0 rfl) (o := 0) (off := 0) rfl (Cut.one Tryd.isAgg3 rfl)) rfl ?_
      refine Mx.p rfl (Pu.fieldAddr (off' := 1) Tryd.runUnderlying38 rfl Tryd.sizeOf3 rfl rfl rfl) rfl ?_
      refine Mx.q rfl (Qt.ld rfl (Cel.var 0 rfl) (o := 0) (off := 1) rfl (Cut.one Tryd.isAgg3 rfl)) rfl ?_
      refine Mx.p rfl (Pu.fieldAddr (off' := 2) Tryd.runUnderlying38 rfl Tryd.sizeOf3 rfl rfl rfl) rfl ?_
      refine Mx.q rfl (Qt.ld rfl (Cel.var 0 rfl) (o := 0) (off := 2) rfl (Cut.one Tryd.isAgg3 rfl)) rfl ?_
      refine Mx.p rfl (Pu.fieldAddr (off' := 3) Tryd.runUnderlying38 rfl Tryd.sizeOf3 rfl rfl rfl) rfl ?_
      refine Mx.q rfl (Qt.ld rfl (Cel.var 0 rfl) (o := 0) (off := 3) rfl (Cut.one Tryd.isAgg3 rfl)) rfl ?_
      refine Mx.l rfl (Lo.call [] (by exact Tryd.call42) rfl r28_tails [] [0, 1, 2] (by decide) rfl [var g10 [.int .i64 e9.to, .int .i64 e9.tier, .int .i64 e9.weight, .int .i64 e9.most] 38, row V 9 1 (out.map encS), var g1 [.int .i64 x0, .int .i64 x1, .int .i64 x2, .int .i64 x3, .int .i64 x4, .int .i64 x5, .int .i64 x6, .int .i64 x7, .int .i64 x8, .int .i64 x9, .int .i64 x10, .int .i64 x11, .int .i64 x12, cv] 26] rfl RoOk.nil) rfl ?_
      rintro v15 _ ⟨_, rfl, rfl⟩
      refine MxK.go [0, 1] [1] [row v15 9 1 (Cf.tails.map encS), var g10 [.int .i64 e9.to, .int .i64 e9.tier, .int .i64 e9.weight, .int .i64 e9.most] 38] (by decide) rfl (by decide) rfl ?_
      refine Mx.l rfl (Lo.buildM (s := 1) encZ [e9.to, e9.tier, e9.weight, e9.most] [(0, .int .i64 e9.to), (1, .int .i64 e9.tier), (2, .int .i64 e9.weight), (3, .int .i64 e9.most)] (by exact Tryd.runUnderlying30) (by exact Tryd.sizeOf3) (by exact Tryd.zeroValue3) rfl rfl rfl (by kernel_rfl) rfl rfl) rfl ?_
      rintro V16 _ rfl
      refine MxK.go [0, 1, 2] [1, 2] [row V16 3 1 (([e9.to, e9.tier, e9.weight, e9.most]).map encZ), row v15 9 1 (Cf.tails.map encS), var g10 [.int .i64 e9.to, .int .i64 e9.tier, .int .i64 e9.weight, .int .i64 e9.most] 38] (by decide) rfl (by decide) rfl ?_
      refine Mx.call (vs := [str ([99, 97, 108, 108]), v15, V16]) (caps := []) rfl (by exact Tryd.call18) rfl rfl (r28_Row ([99, 97, 108, 108]) v15 Cf.tails V16 ([e9.to, e9.tier, e9.weight, e9.most]) (by decide) (fun x h => Nat.le_trans (Cf.tails_le x h) (by decide)) (by decide) (by simp only [List.length_cons, List.length_nil]; omega) (hC _ (List.mem_of_getElem? (by assumption)))) (fun _ _ h => h) (RoOk.of 1 rfl row_rd [] (by decide) rfl (RoOk.of 0 rfl row_rd [] (by decide) rfl RoOk.nil)) rfl ?_
      refine Mx.l rfl (Lo.buildM (s := 1) encS [Cf.row ([99, 97, 108, 108]) Cf.tails ([e9.to, e9.tier, e9.weight, e9.most])] [(0, str (Cf.row ([99, 97, 108, 108]) Cf.tails ([e9.to, e9.tier, e9.weight, e9.most])))] (by exact Tryd.runUnderlying27) (by exact Tryd.sizeOf9) (by exact Tryd.zeroValue9) rfl rfl rfl (by kernel_rfl) rfl rfl) rfl ?_
      rintro V17 _ rfl
      refine MxK.go [1, 2, 3] [0, 1, 2] [row V16 3 1 (([e9.to, e9.tier, e9.weight, e9.most]).map encZ), row v15 9 1 (Cf.tails.map encS), var g10 [.int .i64 e9.to, .int .i64 e9.tier, .int .i64 e9.weight, .int .i64 e9.most] 38] (by decide) rfl (by decide) rfl ?_
      refine Mx.l rfl (Lo.appendM (s := 1) 4 (by exact Tryd.underlying27) (by exact (info9).1) (by exact (info9).2.1) (by exact (info9).2.2.1) (by exact (info9).2.2.2) rfl rfl rfl rfl rfl (Src.row 0 rfl) encS.one (by first | omega | decide | (have ho_ := congrArg List.length hout; rw [List.length_take] at ho_; simp only [List.length_append, List.length_cons, List.length_nil]; omega)) (by first | omega | decide | (have ho_ := congrArg List.length hout; rw [List.length_take] at ho_; simp only [List.length_append, List.length_cons, List.length_nil]; omega))) rfl ?_
      rintro V18 _ rfl
      refine MxK.go [1, 2, 3] [0, 1, 2] [row V16 3 1 (([e9.to, e9.tier, e9.weight, e9.most]).map encZ), row v15 9 1 (Cf.tails.map encS), var g10 [.int .i64 e9.to, .int .i64 e9.tier, .int .i64 e9.weight, .int .i64 e9.most] 38] (by decide) rfl (by decide) rfl ?_
      refine Mx.p rfl (Pu.assign rfl) rfl ?_
      refine Mx.nil ?_
      refine J.blk ?_
      refine J.region ?_
      refine O.p (Pu.move rfl) rfl ?_
      refine O.p (Pu.add' rfl rfl (by first | omega | (simp only [List.length_append, List.length_cons, List.length_nil, List.length_set]; omega))) rfl ?_
      refine O.p (Pu.assign rfl) rfl ?_
      refine O.nil ?_
      exact J.lp ⟨k + 1, V18, out ++ ([Cf.row ([99, 97, 108, 108]) Cf.tails ([e9.to, e9.tier, e9.weight, e9.most])])⟩ (show (k + 1) ≤ cs.length ∧ (out ++ ([Cf.row ([99, 97, 108, 108]) Cf.tails ([e9.to, e9.tier, e9.weight, e9.most])])) = (Cf.lines [x0, x1, x2, x3, x4, x5, x6, x7, x8, x9, x10, x11, x12] cs).take ((k + 1) + 1) from ⟨by omega, (by rw [hout]; exact (Cf.lines_next he9).symm)⟩) (show cs.length - (k + 1) < cs.length - k from (by first | omega | decide | (have ho_ := congrArg List.length hout; rw [List.length_take] at ho_; simp only [List.length_append, List.length_cons, List.length_nil]; omega))) ⟨rfl, rfl, rfl, (congrArg (fun z => some (Value.int .i64 z)) (by first | rfl | omega : ((k : Int) + 1 : Int) = ((k + 1) : Int))), trivial⟩ [4, 5] (by decide) rfl
  ·
    have p19 := of_decide_eq_false h7
    refine J.exit _ rfl ?_
    refine J.seq ?_
    refine J.region ?_
    refine O.p (Pu.move rfl) rfl ?_
    refine O.p (Pu.assign rfl) rfl ?_
    refine O.nil ?_
    exact J.ret (Fin.ret (rs := [.tmp 2]) rfl [_] ⟨rfl, trivial⟩ [0] (by decide) [row V 9 1 (out.map encS)] rfl (congrArg (fun (o : List Wd.Bs) => ([row V 9 1 (o.map encS)] : List Sp)) (show out = Cf.lines [x0, x1, x2, x3, x4, x5, x6, x7, x8, x9, x10, x11, x12] cs from (by rw [hout, Cf.lines_all (by omega)]))))

end Go.Proofs.YtilcmkegbmppnaaDoor
