/-
  Walks, printed by a program of mine (lk.py): each function meets its contract.
-/
import Derived.KernelRfl
import Derived.Test.YtnhfgnnpbipcnaaGreatDoorCXA
namespace Go.Proofs.YtnhfgnnpbipcnaaGreatDoor
open Go Go.LK
set_option linter.unusedSimpArgs false

set_option maxRecDepth 100000 in
theorem cf_Head (line : Wd.Bs) (hs : line.length ≤ 100000) : Tri Tryz.prog 113 #[str line] [libW, var 1 (Kn.names.map vS) 144] [] (fun v L' => ∃ v0 v1 v2 v3 v4 v5 v6 v7 v8 v9 v10 v11 v12, Cf.headL line = [v0, v1, v2, v3, v4, v5, v6, v7, v8, v9, v10, v11, v12] ∧ v = .tuple #[.agg #[.int .i64 v0, .int .i64 v1, .int .i64 v2, .int .i64 v3, .int .i64 v4, .int .i64 v5, .int .i64 v6, .int .i64 v7, .int .i64 v8, .int .i64 v9, .int .i64 v10, .int .i64 v11, .int .i64 v12, .slice none 0 0], .bool (Cf.numbers line Cf.svcW Cf.heads).2] ∧ L' = []) := by
  refine Tri.en F113 rfl K113 rfl fun w0 => ?_
  refine J.co 2 rfl ?_
  refine O.l (Lo.al Y47 rfl) rfl ?_
  rintro _ _ ⟨g1, rfl, rfl⟩
  refine O.oo 5 rfl ?_
  refine O.l (Lo.ca C70 cf_heads [] rfl rfl (.ro 1 rfl .nil)) rfl ?_
  rintro v2 _ ⟨_, rfl, rfl⟩
  refine O.l (Lo.ca C81 (cf_Numbers line ([115, 101, 114, 118, 105, 99, 101]) v2 Cf.heads (by omega) (by decide) (fun x h => Nat.le_trans (Cf.heads_le x h) (by decide))) [] rfl rfl (.ro 0 rfl (.of 0 row_rd rfl rfl .nil))) rfl ?_
  rintro _ _ ⟨_, ⟨V3, rfl, rfl⟩, rfl⟩
  refine O.oc 12 rfl ?_
  refine J.cond rfl (fun h5 => ?_) (fun h5 => ?_)
  ·
    have h6 : ((Cf.numbers line ([115, 101, 114, 118, 105, 99, 101]) Cf.heads).2) = false := not_flip h5
    refine J.co 2 rfl ?_
    refine O.p (Pu.build [] [.int .i64 0, .int .i64 0, .int .i64 0, .int .i64 0, .int .i64 0, .int .i64 0, .int .i64 0, .int .i64 0, .int .i64 0, .int .i64 0, .int .i64 0, .int .i64 0, .int .i64 0, Value.slice none 0 0] #[(0, 1), (1, 1), (2, 1), (3, 1), (4, 1), (5, 1), (6, 7), (13, 1)] U47 Y47 (places47 N47) rfl (by kernel_rfl)) rfl ?_
    refine O.l0 (Lo.st 2 Z47 rfl rfl rfl rfl rfl rfl rfl) ?_
    rintro _ _ rfl
    refine O.oc 2 rfl ?_
    exact J.rn [_, _] [] rfl ⟨⟨_, _, 0, 0, _, rfl, (Cel.var 2 rfl), rfl, (Cut.agg [.int .i64 0, .int .i64 0, .int .i64 0, .int .i64 0, .int .i64 0, .int .i64 0, .int .i64 0, .int .i64 0, .int .i64 0, .int .i64 0, .int .i64 0, .int .i64 0, .int .i64 0, Value.slice none 0 0] A47 Z47 rfl rfl)⟩, rfl, trivial⟩ rfl ⟨0, 0, 0, 0, 0, 0, 0, 0, 0, 0, 0, 0, 0, Cf.headL_no (by assumption), (by rw [(by assumption : (Cf.numbers line Cf.svcW Cf.heads).2 = false)]; rfl), rfl⟩
  ·
    have h7 : ((Cf.numbers line ([115, 101, 114, 118, 105, 99, 101]) Cf.heads).2) = true := not_flip h5
    refine J.co 4 rfl ?_
    refine O.q (Qt.cutTail U53 Z3 rfl (Src.row 0 rfl) rfl (by omega) (by first | omega | (have hl_ := Cf.numbers_len (by assumption : (Cf.numbers line ([115, 101, 114, 118, 105, 99, 101] : List UInt8) Cf.heads).2 = true); rw [Cf.heads_len] at hl_; first | omega | (simp only [List.length_drop]; omega)))) rfl ?_
    refine O.oc 3 rfl ?_
    refine J.drawTail 41 Tryz.mixed (by kernel_rfl) ?_
    refine S.r 1 rfl ?_
    obtain ⟨e8, he8⟩ := ex_at (l := ((Cf.numbers line ([115, 101, 114, 118, 105, 99, 101]) Cf.heads).1)) (i := 0) (by first | omega | (have hl_ := Cf.numbers_len (by assumption : (Cf.numbers line ([115, 101, 114, 118, 105, 99, 101] : List UInt8) Cf.heads).2 = true); rw [Cf.heads_len] at hl_; first | omega | (simp only [List.length_drop]; omega)))
    refine S.q (Qt.idxM U53 Z3 rfl (Src.row 0 rfl) rfl (by omega) (by first | omega | (have hl_ := Cf.numbers_len (by assumption : (Cf.numbers line ([115, 101, 114, 118, 105, 99, 101] : List UInt8) Cf.heads).2 = true); rw [Cf.heads_len] at hl_; first | omega | (simp only [List.length_drop]; omega)))) rfl ?_
    refine S.q (Qt.le A3 (Src.row 0 rfl) he8 0 rfl (by omega) rfl) rfl ?_
    refine S.r 1 rfl ?_
    obtain ⟨e9, he9⟩ := ex_at (l := ((Cf.numbers line ([115, 101, 114, 118, 105, 99, 101]) Cf.heads).1)) (i := 1) (by first | omega | (have hl_ := Cf.numbers_len (by assumption : (Cf.numbers line ([115, 101, 114, 118, 105, 99, 101] : List UInt8) Cf.heads).2 = true); rw [Cf.heads_len] at hl_; first | omega | (simp only [List.length_drop]; omega)))
    refine S.q (Qt.idxM U53 Z3 rfl (Src.row 0 rfl) rfl (by omega) (by first | omega | (have hl_ := Cf.numbers_len (by assumption : (Cf.numbers line ([115, 101, 114, 118, 105, 99, 101] : List UInt8) Cf.heads).2 = true); rw [Cf.heads_len] at hl_; first | omega | (simp only [List.length_drop]; omega)))) rfl ?_
    refine S.q (Qt.le A3 (Src.row 0 rfl) he9 0 rfl (by omega) rfl) rfl ?_
    refine S.r 1 rfl ?_
    obtain ⟨e10, he10⟩ := ex_at (l := ((Cf.numbers line ([115, 101, 114, 118, 105, 99, 101]) Cf.heads).1)) (i := 2) (by first | omega | (have hl_ := Cf.numbers_len (by assumption : (Cf.numbers line ([115, 101, 114, 118, 105, 99, 101] : List UInt8) Cf.heads).2 = true); rw [Cf.heads_len] at hl_; first | omega | (simp only [List.length_drop]; omega)))
    refine S.q (Qt.idxM U53 Z3 rfl (Src.row 0 rfl) rfl (by omega) (by first | omega | (have hl_ := Cf.numbers_len (by assumption : (Cf.numbers line ([115, 101, 114, 118, 105, 99, 101] : List UInt8) Cf.heads).2 = true); rw [Cf.heads_len] at hl_; first | omega | (simp only [List.length_drop]; omega)))) rfl ?_
    refine S.q (Qt.le A3 (Src.row 0 rfl) he10 0 rfl (by omega) rfl) rfl ?_
    refine S.r 1 rfl ?_
    obtain ⟨e11, he11⟩ := ex_at (l := ((Cf.numbers line ([115, 101, 114, 118, 105, 99, 101]) Cf.heads).1)) (i := 3) (by first | omega | (have hl_ := Cf.numbers_len (by assumption : (Cf.numbers line ([115, 101, 114, 118, 105, 99, 101] : List UInt8) Cf.heads).2 = true); rw [Cf.heads_len] at hl_; first | omega | (simp only [List.length_drop]; omega)))
    refine S.q (Qt.idxM U53 Z3 rfl (Src.row 0 rfl) rfl (by omega) (by first | omega | (have hl_ := Cf.numbers_len (by assumption : (Cf.numbers line ([115, 101, 114, 118, 105, 99, 101] : List UInt8) Cf.heads).2 = true); rw [Cf.heads_len] at hl_; first | omega | (simp only [List.length_drop]; omega)))) rfl ?_
    refine S.q (Qt.le A3 (Src.row 0 rfl) he11 0 rfl (by omega) rfl) rfl ?_
    refine S.r 1 rfl ?_
    obtain ⟨e12, he12⟩ := ex_at (l := ((Cf.numbers line ([115, 101, 114, 118, 105, 99, 101]) Cf.heads).1)) (i := 4) (by first | omega | (have hl_ := Cf.numbers_len (by assumption : (Cf.numbers line ([115, 101, 114, 118, 105, 99, 101] : List UInt8) Cf.heads).2 = true); rw [Cf.heads_len] at hl_; first | omega | (simp only [List.length_drop]; omega)))
    refine S.q (Qt.idxM U53 Z3 rfl (Src.row 0 rfl) rfl (by omega) (by first | omega | (have hl_ := Cf.numbers_len (by assumption : (Cf.numbers line ([115, 101, 114, 118, 105, 99, 101] : List UInt8) Cf.heads).2 = true); rw [Cf.heads_len] at hl_; first | omega | (simp only [List.length_drop]; omega)))) rfl ?_
    refine S.q (Qt.le A3 (Src.row 0 rfl) he12 0 rfl (by omega) rfl) rfl ?_
    refine S.r 1 rfl ?_
    obtain ⟨e13, he13⟩ := ex_at (l := ((Cf.numbers line ([115, 101, 114, 118, 105, 99, 101]) Cf.heads).1)) (i := 5) (by first | omega | (have hl_ := Cf.numbers_len (by assumption : (Cf.numbers line ([115, 101, 114, 118, 105, 99, 101] : List UInt8) Cf.heads).2 = true); rw [Cf.heads_len] at hl_; first | omega | (simp only [List.length_drop]; omega)))
    refine S.q (Qt.idxM U53 Z3 rfl (Src.row 0 rfl) rfl (by omega) (by first | omega | (have hl_ := Cf.numbers_len (by assumption : (Cf.numbers line ([115, 101, 114, 118, 105, 99, 101] : List UInt8) Cf.heads).2 = true); rw [Cf.heads_len] at hl_; first | omega | (simp only [List.length_drop]; omega)))) rfl ?_
    refine S.q (Qt.le A3 (Src.row 0 rfl) he13 0 rfl (by omega) rfl) rfl ?_
    refine S.r 1 rfl ?_
    obtain ⟨e14, he14⟩ := ex_at (l := (((Cf.numbers line ([115, 101, 114, 118, 105, 99, 101]) Cf.heads).1).drop (6 : Int).toNat)) (i := 0) (by first | omega | (have hl_ := Cf.numbers_len (by assumption : (Cf.numbers line ([115, 101, 114, 118, 105, 99, 101] : List UInt8) Cf.heads).2 = true); rw [Cf.heads_len] at hl_; first | omega | (simp only [List.length_drop]; omega)))
    refine S.q (Qt.idxM U53 Z3 rfl (Src.tail (l := (Cf.numbers line ([115, 101, 114, 118, 105, 99, 101]) Cf.heads).1) (Src.row 0 rfl) (by first | omega | (have hl_ := Cf.numbers_len (by assumption : (Cf.numbers line ([115, 101, 114, 118, 105, 99, 101] : List UInt8) Cf.heads).2 = true); rw [Cf.heads_len] at hl_; first | omega | (simp only [List.length_drop]; omega))) rfl) rfl (by omega) (by first | omega | (have hl_ := Cf.numbers_len (by assumption : (Cf.numbers line ([115, 101, 114, 118, 105, 99, 101] : List UInt8) Cf.heads).2 = true); rw [Cf.heads_len] at hl_; first | omega | (simp only [List.length_drop]; omega)))) rfl ?_
    refine S.q (Qt.le A3 (Src.tail (l := (Cf.numbers line ([115, 101, 114, 118, 105, 99, 101]) Cf.heads).1) (Src.row 0 rfl) (by first | omega | (have hl_ := Cf.numbers_len (by assumption : (Cf.numbers line ([115, 101, 114, 118, 105, 99, 101] : List UInt8) Cf.heads).2 = true); rw [Cf.heads_len] at hl_; first | omega | (simp only [List.length_drop]; omega))) rfl) he14 0 rfl (by omega) rfl) rfl ?_
    refine S.r 1 rfl ?_
    obtain ⟨e15, he15⟩ := ex_at (l := (((Cf.numbers line ([115, 101, 114, 118, 105, 99, 101]) Cf.heads).1).drop (6 : Int).toNat)) (i := 1) (by first | omega | (have hl_ := Cf.numbers_len (by assumption : (Cf.numbers line ([115, 101, 114, 118, 105, 99, 101] : List UInt8) Cf.heads).2 = true); rw [Cf.heads_len] at hl_; first | omega | (simp only [List.length_drop]; omega)))
    refine S.q (Qt.idxM U53 Z3 rfl (Src.tail (l := (Cf.numbers line ([115, 101, 114, 118, 105, 99, 101]) Cf.heads).1) (Src.row 0 rfl) (by first | omega | (have hl_ := Cf.numbers_len (by assumption : (Cf.numbers line ([115, 101, 114, 118, 105, 99, 101] : List UInt8) Cf.heads).2 = true); rw [Cf.heads_len] at hl_; first | omega | (simp only [List.length_drop]; omega))) rfl) rfl (by omega) (by first | omega | (have hl_ := Cf.numbers_len (by assumption : (Cf.numbers line ([115, 101, 114, 118, 105, 99, 101] : List UInt8) Cf.heads).2 = true); rw [Cf.heads_len] at hl_; first | omega | (simp only [List.length_drop]; omega)))) rfl ?_
    refine S.q (Qt.le A3 (Src.tail (l := (Cf.numbers line ([115, 101, 114, 118, 105, 99, 101]) Cf.heads).1) (Src.row 0 rfl) (by first | omega | (have hl_ := Cf.numbers_len (by assumption : (Cf.numbers line ([115, 101, 114, 118, 105, 99, 101] : List UInt8) Cf.heads).2 = true); rw [Cf.heads_len] at hl_; first | omega | (simp only [List.length_drop]; omega))) rfl) he15 0 rfl (by omega) rfl) rfl ?_
    refine S.r 1 rfl ?_
    obtain ⟨e16, he16⟩ := ex_at (l := (((Cf.numbers line ([115, 101, 114, 118, 105, 99, 101]) Cf.heads).1).drop (6 : Int).toNat)) (i := 2) (by first | omega | (have hl_ := Cf.numbers_len (by assumption : (Cf.numbers line ([115, 101, 114, 118, 105, 99, 101] : List UInt8) Cf.heads).2 = true); rw [Cf.heads_len] at hl_; first | omega | (simp only [List.length_drop]; omega)))
    refine S.q (Qt.idxM U53 Z3 rfl (Src.tail (l := (Cf.numbers line ([115, 101, 114, 118, 105, 99, 101]) Cf.heads).1) (Src.row 0 rfl) (by first | omega | (have hl_ := Cf.numbers_len (by assumption : (Cf.numbers line ([115, 101, 114, 118, 105, 99, 101] : List UInt8) Cf.heads).2 = true); rw [Cf.heads_len] at hl_; first | omega | (simp only [List.length_drop]; omega))) rfl) rfl (by omega) (by first | omega | (have hl_ := Cf.numbers_len (by assumption : (Cf.numbers line ([115, 101, 114, 118, 105, 99, 101] : List UInt8) Cf.heads).2 = true); rw [Cf.heads_len] at hl_; first | omega | (simp only [List.length_drop]; omega)))) rfl ?_
    refine S.q (Qt.le A3 (Src.tail (l := (Cf.numbers line ([115, 101, 114, 118, 105, 99, 101]) Cf.heads).1) (Src.row 0 rfl) (by first | omega | (have hl_ := Cf.numbers_len (by assumption : (Cf.numbers line ([115, 101, 114, 118, 105, 99, 101] : List UInt8) Cf.heads).2 = true); rw [Cf.heads_len] at hl_; first | omega | (simp only [List.length_drop]; omega))) rfl) he16 0 rfl (by omega) rfl) rfl ?_
    refine S.r 1 rfl ?_
    obtain ⟨e17, he17⟩ := ex_at (l := (((Cf.numbers line ([115, 101, 114, 118, 105, 99, 101]) Cf.heads).1).drop (6 : Int).toNat)) (i := 3) (by first | omega | (have hl_ := Cf.numbers_len (by assumption : (Cf.numbers line ([115, 101, 114, 118, 105, 99, 101] : List UInt8) Cf.heads).2 = true); rw [Cf.heads_len] at hl_; first | omega | (simp only [List.length_drop]; omega)))
    refine S.q (Qt.idxM U53 Z3 rfl (Src.tail (l := (Cf.numbers line ([115, 101, 114, 118, 105, 99, 101]) Cf.heads).1) (Src.row 0 rfl) (by first | omega | (have hl_ := Cf.numbers_len (by assumption : (Cf.numbers line ([115, 101, 114, 118, 105, 99, 101] : List UInt8) Cf.heads).2 = true); rw [Cf.heads_len] at hl_; first | omega | (simp only [List.length_drop]; omega))) rfl) rfl (by omega) (by first | omega | (have hl_ := Cf.numbers_len (by assumption : (Cf.numbers line ([115, 101, 114, 118, 105, 99, 101] : List UInt8) Cf.heads).2 = true); rw [Cf.heads_len] at hl_; first | omega | (simp only [List.length_drop]; omega)))) rfl ?_
    refine S.q (Qt.le A3 (Src.tail (l := (Cf.numbers line ([115, 101, 114, 118, 105, 99, 101]) Cf.heads).1) (Src.row 0 rfl) (by first | omega | (have hl_ := Cf.numbers_len (by assumption : (Cf.numbers line ([115, 101, 114, 118, 105, 99, 101] : List UInt8) Cf.heads).2 = true); rw [Cf.heads_len] at hl_; first | omega | (simp only [List.length_drop]; omega))) rfl) he17 0 rfl (by omega) rfl) rfl ?_
    refine S.r 1 rfl ?_
    obtain ⟨e18, he18⟩ := ex_at (l := (((Cf.numbers line ([115, 101, 114, 118, 105, 99, 101]) Cf.heads).1).drop (6 : Int).toNat)) (i := 4) (by first | omega | (have hl_ := Cf.numbers_len (by assumption : (Cf.numbers line ([115, 101, 114, 118, 105, 99, 101] : List UInt8) Cf.heads).2 = true); rw [Cf.heads_len] at hl_; first | omega | (simp only [List.length_drop]; omega)))
    refine S.q (Qt.idxM U53 Z3 rfl (Src.tail (l := (Cf.numbers line ([115, 101, 114, 118, 105, 99, 101]) Cf.heads).1) (Src.row 0 rfl) (by first | omega | (have hl_ := Cf.numbers_len (by assumption : (Cf.numbers line ([115, 101, 114, 118, 105, 99, 101] : List UInt8) Cf.heads).2 = true); rw [Cf.heads_len] at hl_; first | omega | (simp only [List.length_drop]; omega))) rfl) rfl (by omega) (by first | omega | (have hl_ := Cf.numbers_len (by assumption : (Cf.numbers line ([115, 101, 114, 118, 105, 99, 101] : List UInt8) Cf.heads).2 = true); rw [Cf.heads_len] at hl_; first | omega | (simp only [List.length_drop]; omega)))) rfl ?_
    refine S.q (Qt.le A3 (Src.tail (l := (Cf.numbers line ([115, 101, 114, 118, 105, 99, 101]) Cf.heads).1) (Src.row 0 rfl) (by first | omega | (have hl_ := Cf.numbers_len (by assumption : (Cf.numbers line ([115, 101, 114, 118, 105, 99, 101] : List UInt8) Cf.heads).2 = true); rw [Cf.heads_len] at hl_; first | omega | (simp only [List.length_drop]; omega))) rfl) he18 0 rfl (by omega) rfl) rfl ?_
    refine S.r 1 rfl ?_
    obtain ⟨e19, he19⟩ := ex_at (l := (((Cf.numbers line ([115, 101, 114, 118, 105, 99, 101]) Cf.heads).1).drop (6 : Int).toNat)) (i := 5) (by first | omega | (have hl_ := Cf.numbers_len (by assumption : (Cf.numbers line ([115, 101, 114, 118, 105, 99, 101] : List UInt8) Cf.heads).2 = true); rw [Cf.heads_len] at hl_; first | omega | (simp only [List.length_drop]; omega)))
    refine S.q (Qt.idxM U53 Z3 rfl (Src.tail (l := (Cf.numbers line ([115, 101, 114, 118, 105, 99, 101]) Cf.heads).1) (Src.row 0 rfl) (by first | omega | (have hl_ := Cf.numbers_len (by assumption : (Cf.numbers line ([115, 101, 114, 118, 105, 99, 101] : List UInt8) Cf.heads).2 = true); rw [Cf.heads_len] at hl_; first | omega | (simp only [List.length_drop]; omega))) rfl) rfl (by omega) (by first | omega | (have hl_ := Cf.numbers_len (by assumption : (Cf.numbers line ([115, 101, 114, 118, 105, 99, 101] : List UInt8) Cf.heads).2 = true); rw [Cf.heads_len] at hl_; first | omega | (simp only [List.length_drop]; omega)))) rfl ?_
    refine S.q (Qt.le A3 (Src.tail (l := (Cf.numbers line ([115, 101, 114, 118, 105, 99, 101]) Cf.heads).1) (Src.row 0 rfl) (by first | omega | (have hl_ := Cf.numbers_len (by assumption : (Cf.numbers line ([115, 101, 114, 118, 105, 99, 101] : List UInt8) Cf.heads).2 = true); rw [Cf.heads_len] at hl_; first | omega | (simp only [List.length_drop]; omega))) rfl) he19 0 rfl (by omega) rfl) rfl ?_
    refine S.r 1 rfl ?_
    obtain ⟨e20, he20⟩ := ex_at (l := (((Cf.numbers line ([115, 101, 114, 118, 105, 99, 101]) Cf.heads).1).drop (6 : Int).toNat)) (i := 6) (by first | omega | (have hl_ := Cf.numbers_len (by assumption : (Cf.numbers line ([115, 101, 114, 118, 105, 99, 101] : List UInt8) Cf.heads).2 = true); rw [Cf.heads_len] at hl_; first | omega | (simp only [List.length_drop]; omega)))
    refine S.q (Qt.idxM U53 Z3 rfl (Src.tail (l := (Cf.numbers line ([115, 101, 114, 118, 105, 99, 101]) Cf.heads).1) (Src.row 0 rfl) (by first | omega | (have hl_ := Cf.numbers_len (by assumption : (Cf.numbers line ([115, 101, 114, 118, 105, 99, 101] : List UInt8) Cf.heads).2 = true); rw [Cf.heads_len] at hl_; first | omega | (simp only [List.length_drop]; omega))) rfl) rfl (by omega) (by first | omega | (have hl_ := Cf.numbers_len (by assumption : (Cf.numbers line ([115, 101, 114, 118, 105, 99, 101] : List UInt8) Cf.heads).2 = true); rw [Cf.heads_len] at hl_; first | omega | (simp only [List.length_drop]; omega)))) rfl ?_
    refine S.q (Qt.le A3 (Src.tail (l := (Cf.numbers line ([115, 101, 114, 118, 105, 99, 101]) Cf.heads).1) (Src.row 0 rfl) (by first | omega | (have hl_ := Cf.numbers_len (by assumption : (Cf.numbers line ([115, 101, 114, 118, 105, 99, 101] : List UInt8) Cf.heads).2 = true); rw [Cf.heads_len] at hl_; first | omega | (simp only [List.length_drop]; omega))) rfl) he20 0 rfl (by omega) rfl) rfl ?_
    refine S.p (Pu.build [(0, .int .i64 e14), (1, .int .i64 e15), (2, .int .i64 e16), (3, .int .i64 e17), (4, .int .i64 e18), (5, .int .i64 e19), (6, .int .i64 e20)] [.int .i64 e14, .int .i64 e15, .int .i64 e16, .int .i64 e17, .int .i64 e18, .int .i64 e19, .int .i64 e20] #[(0, 1), (1, 1), (2, 1), (3, 1), (4, 1), (5, 1), (6, 1)] U44 Y44 (places44 N44) rfl (by kernel_rfl)) rfl ?_
    refine S.p (Pu.build [(0, .int .i64 e8), (1, .int .i64 e9), (2, .int .i64 e10), (3, .int .i64 e11), (4, .int .i64 e12), (5, .int .i64 e13), (6, .agg #[.int .i64 e14, .int .i64 e15, .int .i64 e16, .int .i64 e17, .int .i64 e18, .int .i64 e19, .int .i64 e20])] [.int .i64 e8, .int .i64 e9, .int .i64 e10, .int .i64 e11, .int .i64 e12, .int .i64 e13, .int .i64 e14, .int .i64 e15, .int .i64 e16, .int .i64 e17, .int .i64 e18, .int .i64 e19, .int .i64 e20, Value.slice none 0 0] #[(0, 1), (1, 1), (2, 1), (3, 1), (4, 1), (5, 1), (6, 7), (13, 1)] U47 Y47 (places47 N47) rfl (by kernel_rfl)) rfl ?_
    refine S.endO ?_
    refine O.l0 (Lo.st 2 Z47 rfl rfl rfl rfl rfl rfl rfl) ?_
    rintro _ _ rfl
    refine O.oc 2 rfl ?_
    exact J.rn [_, _] [] rfl ⟨⟨_, _, 0, 0, _, rfl, (Cel.var 2 rfl), rfl, (Cut.agg [.int .i64 e8, .int .i64 e9, .int .i64 e10, .int .i64 e11, .int .i64 e12, .int .i64 e13, .int .i64 e14, .int .i64 e15, .int .i64 e16, .int .i64 e17, .int .i64 e18, .int .i64 e19, .int .i64 e20, Value.slice none 0 0] A47 Z47 rfl rfl)⟩, rfl, trivial⟩ rfl ⟨e8, e9, e10, e11, e12, e13, e14, e15, e16, e17, e18, e19, e20, (Cf.headL_yes (by assumption)).trans (Cf.list13 (Cf.numbers_len (by assumption)) rfl he8 he9 he10 he11 he12 he13 he14 he15 he16 he17 he18 he19 he20), (by rw [(by assumption : (Cf.numbers line Cf.svcW Cf.heads).2 = true)]; rfl), rfl⟩

set_option maxRecDepth 100000 in
theorem cf_Call (line : Wd.Bs) (hs : line.length ≤ 100000) : Tri Tryz.prog 125 #[str line] [libW] [] (fun v L' => ∃ v0 v1 v2 v3, Cf.callL line = [v0, v1, v2, v3] ∧ v = .tuple #[.agg #[.int .i64 v0, .int .i64 v1, .int .i64 v2, .int .i64 v3], .bool (Cf.numbers line Cf.callW Cf.tails).2] ∧ L' = []) := by
  refine Tri.en F125 rfl K125 rfl fun w0 => ?_
  refine J.co 2 rfl ?_
  refine O.l (Lo.al Y50 rfl) rfl ?_
  rintro _ _ ⟨g1, rfl, rfl⟩
  refine O.oo 5 rfl ?_
  refine O.l (Lo.ca C72 cf_tails [] rfl rfl .nil) rfl ?_
  rintro v2 _ ⟨_, rfl, rfl⟩
  refine O.l (Lo.ca C81 (cf_Numbers line ([99, 97, 108, 108]) v2 Cf.tails (by omega) (by decide) (fun x h => Nat.le_trans (Cf.tails_le x h) (by decide))) [] rfl rfl (.ro 0 rfl (.of 0 row_rd rfl rfl .nil))) rfl ?_
  rintro _ _ ⟨_, ⟨V3, rfl, rfl⟩, rfl⟩
  refine O.oc 12 rfl ?_
  refine J.cond rfl (fun h5 => ?_) (fun h5 => ?_)
  ·
    have h6 : ((Cf.numbers line ([99, 97, 108, 108]) Cf.tails).2) = false := not_flip h5
    refine J.co 2 rfl ?_
    refine O.p (Pu.build [] [.int .i64 0, .int .i64 0, .int .i64 0, .int .i64 0] #[(0, 1), (1, 1), (2, 1), (3, 1)] U50 Y50 (places50 N50) rfl (by kernel_rfl)) rfl ?_
    refine O.l0 (Lo.st 2 Z50 rfl rfl rfl rfl rfl rfl rfl) ?_
    rintro _ _ rfl
    refine O.oc 2 rfl ?_
    exact J.rn [_, _] [] rfl ⟨⟨_, _, 0, 0, _, rfl, (Cel.var 2 rfl), rfl, (Cut.agg [.int .i64 0, .int .i64 0, .int .i64 0, .int .i64 0] A50 Z50 rfl rfl)⟩, rfl, trivial⟩ rfl ⟨0, 0, 0, 0, Cf.callL_no (by assumption), (by rw [(by assumption : (Cf.numbers line Cf.callW Cf.tails).2 = false)]; rfl), rfl⟩
  ·
    have h7 : ((Cf.numbers line ([99, 97, 108, 108]) Cf.tails).2) = true := not_flip h5
    refine J.cc 2 rfl ?_
    refine J.drawTail 13 Tryz.mixed (by kernel_rfl) ?_
    refine S.r 1 rfl ?_
    obtain ⟨e8, he8⟩ := ex_at (l := ((Cf.numbers line ([99, 97, 108, 108]) Cf.tails).1)) (i := 0) (by first | omega | (have hl_ := Cf.numbers_len (by assumption : (Cf.numbers line ([99, 97, 108, 108] : List UInt8) Cf.tails).2 = true); rw [Cf.tails_len] at hl_; omega))
    refine S.q (Qt.idxM U53 Z3 rfl (Src.row 0 rfl) rfl (by omega) (by first | omega | (have hl_ := Cf.numbers_len (by assumption : (Cf.numbers line ([99, 97, 108, 108] : List UInt8) Cf.tails).2 = true); rw [Cf.tails_len] at hl_; omega))) rfl ?_
    refine S.q (Qt.le A3 (Src.row 0 rfl) he8 0 rfl (by omega) rfl) rfl ?_
    refine S.r 1 rfl ?_
    obtain ⟨e9, he9⟩ := ex_at (l := ((Cf.numbers line ([99, 97, 108, 108]) Cf.tails).1)) (i := 1) (by first | omega | (have hl_ := Cf.numbers_len (by assumption : (Cf.numbers line ([99, 97, 108, 108] : List UInt8) Cf.tails).2 = true); rw [Cf.tails_len] at hl_; omega))
    refine S.q (Qt.idxM U53 Z3 rfl (Src.row 0 rfl) rfl (by omega) (by first | omega | (have hl_ := Cf.numbers_len (by assumption : (Cf.numbers line ([99, 97, 108, 108] : List UInt8) Cf.tails).2 = true); rw [Cf.tails_len] at hl_; omega))) rfl ?_
    refine S.q (Qt.le A3 (Src.row 0 rfl) he9 0 rfl (by omega) rfl) rfl ?_
    refine S.r 1 rfl ?_
    obtain ⟨e10, he10⟩ := ex_at (l := ((Cf.numbers line ([99, 97, 108, 108]) Cf.tails).1)) (i := 2) (by first | omega | (have hl_ := Cf.numbers_len (by assumption : (Cf.numbers line ([99, 97, 108, 108] : List UInt8) Cf.tails).2 = true); rw [Cf.tails_len] at hl_; omega))
    refine S.q (Qt.idxM U53 Z3 rfl (Src.row 0 rfl) rfl (by omega) (by first | omega | (have hl_ := Cf.numbers_len (by assumption : (Cf.numbers line ([99, 97, 108, 108] : List UInt8) Cf.tails).2 = true); rw [Cf.tails_len] at hl_; omega))) rfl ?_
    refine S.q (Qt.le A3 (Src.row 0 rfl) he10 0 rfl (by omega) rfl) rfl ?_
    refine S.r 1 rfl ?_
    obtain ⟨e11, he11⟩ := ex_at (l := ((Cf.numbers line ([99, 97, 108, 108]) Cf.tails).1)) (i := 3) (by first | omega | (have hl_ := Cf.numbers_len (by assumption : (Cf.numbers line ([99, 97, 108, 108] : List UInt8) Cf.tails).2 = true); rw [Cf.tails_len] at hl_; omega))
    refine S.q (Qt.idxM U53 Z3 rfl (Src.row 0 rfl) rfl (by omega) (by first | omega | (have hl_ := Cf.numbers_len (by assumption : (Cf.numbers line ([99, 97, 108, 108] : List UInt8) Cf.tails).2 = true); rw [Cf.tails_len] at hl_; omega))) rfl ?_
    refine S.q (Qt.le A3 (Src.row 0 rfl) he11 0 rfl (by omega) rfl) rfl ?_
    refine S.p (Pu.build [(0, .int .i64 e8), (1, .int .i64 e9), (2, .int .i64 e10), (3, .int .i64 e11)] [.int .i64 e8, .int .i64 e9, .int .i64 e10, .int .i64 e11] #[(0, 1), (1, 1), (2, 1), (3, 1)] U50 Y50 (places50 N50) rfl (by kernel_rfl)) rfl ?_
    refine S.endO ?_
    refine O.l0 (Lo.st 2 Z50 rfl rfl rfl rfl rfl rfl rfl) ?_
    rintro _ _ rfl
    refine O.oc 2 rfl ?_
    exact J.rn [_, _] [] rfl ⟨⟨_, _, 0, 0, _, rfl, (Cel.var 2 rfl), rfl, (Cut.agg [.int .i64 e8, .int .i64 e9, .int .i64 e10, .int .i64 e11] A50 Z50 rfl rfl)⟩, rfl, trivial⟩ rfl ⟨e8, e9, e10, e11, (Cf.callL_yes (by assumption)).trans (Cf.list4 (Cf.numbers_len (by assumption)) he8 he9 he10 he11), (by rw [(by assumption : (Cf.numbers line Cf.callW Cf.tails).2 = true)]; rfl), rfl⟩

set_option maxRecDepth 100000 in
theorem cf_Lines (x0 x1 x2 x3 x4 x5 x6 x7 x8 x9 x10 x11 x12 : Int) (cv : Value) (cs : List Cl) (hI : Kn.I64s [x0, x1, x2, x3, x4, x5, x6, x7, x8, x9, x10, x11, x12]) (hC : ∀ c ∈ cs, Cf.ClI c) (hl : cs.length ≤ 100) : Tri Tryz.prog 39 #[.agg #[.int .i64 x0, .int .i64 x1, .int .i64 x2, .int .i64 x3, .int .i64 x4, .int .i64 x5, .int .i64 x6, .int .i64 x7, .int .i64 x8, .int .i64 x9, .int .i64 x10, .int .i64 x11, .int .i64 x12, cv]] [libW, var 1 (Kn.names.map vS) 144, rd cv 4 (cs.map Cl.cells)] [] (fun v L' => L' = [row v 9 1 ((Cf.lines [x0, x1, x2, x3, x4, x5, x6, x7, x8, x9, x10, x11, x12] cs).map encS)]) := by
  refine Tri.en F39 rfl K39 rfl fun w0 => ?_
  refine J.co 2 rfl ?_
  refine O.one (Src.ro 2 rfl) (fun hV2 => ?_)
  refine O.l (Lo.bx rfl rfl) rfl ?_
  rintro _ _ ⟨g1, rfl, rfl⟩
  refine O.oc 3 rfl ?_
  refine J.dm [(1, false), (0, true), (2, true), (3, false), (4, true), (5, false)] [0] Tryz.mixed (by kernel_rfl) rfl ?_
  refine Mx.q rfl (Qt.lva 0 A47 Z47 rfl rfl rfl) rfl ?_
  refine Mx.l rfl (Lo.ca C70 cf_heads [] rfl rfl (.ro 1 rfl .nil)) rfl ?_
  rintro v3 _ ⟨_, rfl, rfl⟩
  refine MxK.gp [0, 1] [1] rfl rfl ?_
  refine Mx.l rfl (Lo.ca C71 (cf_numbers x0 x1 x2 x3 x4 x5 x6 x7 x8 x9 x10 x11 x12 cv cs) [] rfl rfl (.ro 2 rfl .nil)) rfl ?_
  rintro v4 _ ⟨_, rfl, rfl⟩
  refine MxK.al [0, 1, 2] rfl (by kernel_rfl) ?_
  refine Mx.call (vs := [str ([115, 101, 114, 118, 105, 99, 101]), v3, v4]) (caps := []) rfl (by exact C36) rfl rfl (cf_Row ([115, 101, 114, 118, 105, 99, 101]) v3 Cf.heads v4 ([x0, x1, x2, x3, x4, x5, x6, x7, x8, x9, x10, x11, x12]) (by decide) (fun x h => Nat.le_trans (Cf.heads_le x h) (by decide)) (by decide) (by simp only [List.length_cons, List.length_nil]; omega) hI) (fun _ _ h => h) (RoOk.ro 0 rfl [] rfl (RoOk.of 1 rfl row_rd [] (by decide) rfl (RoOk.of 0 rfl row_rd [] (by decide) rfl RoOk.nil))) rfl ?_
  refine Mx.l rfl (Lo.bm encS [Cf.row ([115, 101, 114, 118, 105, 99, 101]) Cf.heads ([x0, x1, x2, x3, x4, x5, x6, x7, x8, x9, x10, x11, x12])] U72 Z9 Y9 rfl rfl rfl (by kernel_rfl) rfl rfl) rfl ?_
  rintro V5 _ rfl
  refine MxK.al [1, 2, 3] rfl (by kernel_rfl) ?_
  refine Mx.r 1 rfl ?_
  refine Mx.nil ?_
  refine J.co 4 rfl ?_
  refine O.q (Qt.lv 3 A45 rfl rfl rfl) rfl ?_
  refine O.q (Qt.lenM U45 rfl (Src.ro 2 rfl)) rfl ?_
  refine O.oc 3 rfl ?_
  refine J.lo (X := Nat × Value × List Wd.Bs) (fun (k, V, out) => k ≤ cs.length ∧ out = (Cf.lines [x0, x1, x2, x3, x4, x5, x6, x7, x8, x9, x10, x11, x12] cs).take (k + 1)) (fun (k, V, out) => [(3, V), (14, .int .i64 (k : Int))]) (fun (k, V, out) => [row V 9 1 (out.map encS)]) (fun (k, V, out) => cs.length - k) ⟨0, V5, [Cf.row ([115, 101, 114, 118, 105, 99, 101]) Cf.heads ([x0, x1, x2, x3, x4, x5, x6, x7, x8, x9, x10, x11, x12])]⟩ [2, 12, 13] [0] [] ⟨by omega, rfl⟩ ⟨rfl, (eqi (by omega)), trivial⟩ rfl rfl ?_
  rintro ⟨k, V, out⟩ ⟨hk, hout⟩
  refine J.cc 5 rfl ?_
  refine J.cd rfl (fun p6 => ?_) (fun p6 => ?_)
  ·
    refine J.co 5 rfl ?_
    obtain ⟨e7, he7⟩ := ex_at (l := cs) (i := k) (by omega)
    refine O.q (Qt.idxM U45 Z50 rfl (Src.ro 2 rfl) rfl (by omega) (by omega)) rfl ?_
    refine O.q (Qt.lea A50 Z50 (Src.ro 2 rfl) he7 0 rfl (by omega) rfl) rfl ?_
    refine O.l (Lo.al Y50 rfl) rfl ?_
    rintro _ _ ⟨g8, rfl, rfl⟩
    refine O.l0 (Lo.st 0 Z50 rfl rfl rfl rfl rfl rfl rfl) ?_
    rintro _ _ rfl
    refine O.nil ?_
    refine J.drawA Tryz.mixed ?_
    refine A.edge 1 10 rfl ?_ ?_
    ·
      refine A.mx [(0, false), (2, false), (3, false), (4, false), (5, false), (6, false), (7, false), (8, false), (9, false), (10, true), (1, true), (11, false), (12, true), (13, true), (14, false)] [0] (by kernel_rfl) rfl ?_
      refine Mx.r 2 rfl ?_
      refine Mx.q rfl (Qt.lv 0 A3 rfl rfl rfl) rfl ?_
      refine Mx.r 1 rfl ?_
      refine Mx.q rfl (Qt.lv 0 A3 rfl rfl rfl) rfl ?_
      refine Mx.r 1 rfl ?_
      refine Mx.q rfl (Qt.lv 0 A3 rfl rfl rfl) rfl ?_
      refine Mx.r 1 rfl ?_
      refine Mx.q rfl (Qt.lv 0 A3 rfl rfl rfl) rfl ?_
      refine Mx.l rfl (Lo.bm encZ [e7.to, e7.tier, e7.weight, e7.most] U53 Z3 Y3 rfl rfl rfl (by kernel_rfl) rfl rfl) rfl ?_
      rintro V9 _ rfl
      refine MxK.gp [0, 1] [1] rfl rfl ?_
      refine Mx.l rfl (Lo.ca C72 cf_tails [] rfl rfl .nil) rfl ?_
      rintro v10 _ ⟨_, rfl, rfl⟩
      refine MxK.gp [0, 1, 2] [1, 2] rfl rfl ?_
      refine Mx.call (vs := [str ([99, 97, 108, 108]), v10, V9]) (caps := []) rfl (by exact C36) rfl rfl (cf_Row ([99, 97, 108, 108]) v10 Cf.tails V9 ([e7.to, e7.tier, e7.weight, e7.most]) (by decide) (fun x h => Nat.le_trans (Cf.tails_le x h) (by decide)) (by decide) (by simp only [List.length_cons, List.length_nil]; omega) (hC _ (List.mem_of_getElem? (by assumption)))) (fun _ _ h => h) (RoOk.ro 0 rfl [] rfl (RoOk.of 0 rfl row_rd [] (by decide) rfl (RoOk.of 1 rfl row_rd [] (by decide) rfl RoOk.nil))) rfl ?_
      refine Mx.l rfl (Lo.bm encS [Cf.row ([99, 97, 108, 108]) Cf.tails ([e7.to, e7.tier, e7.weight, e7.most])] U72 Z9 Y9 rfl rfl rfl (by kernel_rfl) rfl rfl) rfl ?_
      rintro V11 _ rfl
      refine MxK.gp [1, 2, 3] [0, 1, 2] rfl rfl ?_
      refine Mx.l rfl (Lo.am 4 N72 info9 rfl rfl rfl rfl rfl (Src.row 0 rfl) encS.one (by first | omega | decide | (have ho_ := congrArg List.length hout; rw [List.length_take] at ho_; simp only [List.length_append, List.length_cons, List.length_nil]; omega)) (by first | omega | decide | (have ho_ := congrArg List.length hout; rw [List.length_take] at ho_; simp only [List.length_append, List.length_cons, List.length_nil]; omega))) rfl ?_
      rintro V12 _ rfl
      refine MxK.gp [1, 2, 3] [0, 1, 2] rfl rfl ?_
      refine Mx.r 1 rfl ?_
      refine Mx.nil ?_
      refine J.co 2 rfl ?_
      refine O.p (Pu.add' rfl rfl (by omega)) rfl ?_
      refine O.oc 2 rfl ?_
      exact J.lq ⟨k + 1, V12, out ++ ([Cf.row ([99, 97, 108, 108]) Cf.tails ([e7.to, e7.tier, e7.weight, e7.most])])⟩ [2, 12, 13] [4] [] ⟨by omega, (by rw [hout]; exact (Cf.lines_next he7).symm)⟩ (by dsimp only; omega) ⟨rfl, (eqi (by omega)), trivial⟩ rfl rfl
    ·
      refine A.mx [(0, false), (2, false), (3, false), (4, false), (5, false), (6, false), (7, false), (8, false), (9, false), (1, true), (10, true), (11, false), (12, true), (13, true), (14, false)] [0] (by kernel_rfl) rfl ?_
      refine Mx.r 2 rfl ?_
      refine Mx.q rfl (Qt.lv 0 A3 rfl rfl rfl) rfl ?_
      refine Mx.r 1 rfl ?_
      refine Mx.q rfl (Qt.lv 0 A3 rfl rfl rfl) rfl ?_
      refine Mx.r 1 rfl ?_
      refine Mx.q rfl (Qt.lv 0 A3 rfl rfl rfl) rfl ?_
      refine Mx.r 1 rfl ?_
      refine Mx.q rfl (Qt.lv 0 A3 rfl rfl rfl) rfl ?_
      refine Mx.l rfl (Lo.ca C72 cf_tails [] rfl rfl .nil) rfl ?_
      rintro v13 _ ⟨_, rfl, rfl⟩
      refine MxK.gp [0, 1] [1] rfl rfl ?_
      refine Mx.l rfl (Lo.bm encZ [e7.to, e7.tier, e7.weight, e7.most] U53 Z3 Y3 rfl rfl rfl (by kernel_rfl) rfl rfl) rfl ?_
      rintro V14 _ rfl
      refine MxK.gp [0, 1, 2] [1, 2] rfl rfl ?_
      refine Mx.call (vs := [str ([99, 97, 108, 108]), v13, V14]) (caps := []) rfl (by exact C36) rfl rfl (cf_Row ([99, 97, 108, 108]) v13 Cf.tails V14 ([e7.to, e7.tier, e7.weight, e7.most]) (by decide) (fun x h => Nat.le_trans (Cf.tails_le x h) (by decide)) (by decide) (by simp only [List.length_cons, List.length_nil]; omega) (hC _ (List.mem_of_getElem? (by assumption)))) (fun _ _ h => h) (RoOk.ro 0 rfl [] rfl (RoOk.of 1 rfl row_rd [] (by decide) rfl (RoOk.of 0 rfl row_rd [] (by decide) rfl RoOk.nil))) rfl ?_
      refine Mx.l rfl (Lo.bm encS [Cf.row ([99, 97, 108, 108]) Cf.tails ([e7.to, e7.tier, e7.weight, e7.most])] U72 Z9 Y9 rfl rfl rfl (by kernel_rfl) rfl rfl) rfl ?_
      rintro V15 _ rfl
      refine MxK.gp [1, 2, 3] [0, 1, 2] rfl rfl ?_
      refine Mx.l rfl (Lo.am 4 N72 info9 rfl rfl rfl rfl rfl (Src.row 0 rfl) encS.one (by first | omega | decide | (have ho_ := congrArg List.length hout; rw [List.length_take] at ho_; simp only [List.length_append, List.length_cons, List.length_nil]; omega)) (by first | omega | decide | (have ho_ := congrArg List.length hout; rw [List.length_take] at ho_; simp only [List.length_append, List.length_cons, List.length_nil]; omega))) rfl ?_
      rintro V16 _ rfl
      refine MxK.gp [1, 2, 3] [0, 1, 2] rfl rfl ?_
      refine Mx.r 1 rfl ?_
      refine Mx.nil ?_
      refine J.co 2 rfl ?_
      refine O.p (Pu.add' rfl rfl (by omega)) rfl ?_
      refine O.oc 2 rfl ?_
      exact J.lq ⟨k + 1, V16, out ++ ([Cf.row ([99, 97, 108, 108]) Cf.tails ([e7.to, e7.tier, e7.weight, e7.most])])⟩ [2, 12, 13] [4] [] ⟨by omega, (by rw [hout]; exact (Cf.lines_next he7).symm)⟩ (by dsimp only; omega) ⟨rfl, (eqi (by omega)), trivial⟩ rfl rfl
  ·
    refine J.cc 6 rfl ?_
    exact J.r1 [0] rfl rfl rfl (congrArg (fun (o : List Wd.Bs) => ([row V 9 1 (o.map encS)] : List Sp)) (show out = Cf.lines [x0, x1, x2, x3, x4, x5, x6, x7, x8, x9, x10, x11, x12] cs from (by rw [hout, Cf.lines_all (by omega)])))

set_option maxRecDepth 100000 in
theorem r28_Lines (x0 x1 x2 x3 x4 x5 x6 x7 x8 x9 x10 x11 x12 : Int) (cv : Value) (cs : List Cl) (hI : Kn.I64s [x0, x1, x2, x3, x4, x5, x6, x7, x8, x9, x10, x11, x12]) (hC : ∀ c ∈ cs, Cf.ClI c) (hl : cs.length ≤ 100) : Tri Tryz.prog 44 #[.agg #[.int .i64 x0, .int .i64 x1, .int .i64 x2, .int .i64 x3, .int .i64 x4, .int .i64 x5, .int .i64 x6, .int .i64 x7, .int .i64 x8, .int .i64 x9, .int .i64 x10, .int .i64 x11, .int .i64 x12, cv]] [rd cv 4 (cs.map Cl.cells)] [] (fun v L' => L' = [row v 9 1 ((Cf.lines [x0, x1, x2, x3, x4, x5, x6, x7, x8, x9, x10, x11, x12] cs).map encS)]) := by
  refine Tri.en F44 rfl K44 rfl fun w0 => ?_
  refine J.co 2 rfl ?_
  refine O.one (Src.ro 0 rfl) (fun hV2 => ?_)
  refine O.l (Lo.bx rfl rfl) rfl ?_
  rintro _ _ ⟨g1, rfl, rfl⟩
  refine O.oc 3 rfl ?_
  refine J.dm [(1, false), (0, true), (2, true), (3, false), (4, true), (5, false)] [0] Tryz.mixed (by kernel_rfl) rfl ?_
  refine Mx.q rfl (Qt.lva 0 A47 Z47 rfl rfl rfl) rfl ?_
  refine Mx.l rfl (Lo.ca C77 r28_heads [] rfl rfl .nil) rfl ?_
  rintro v3 _ ⟨_, rfl, rfl⟩
  refine MxK.gp [0, 1] [1] rfl rfl ?_
  refine Mx.l rfl (Lo.ca C55 (r28_numbers x0 x1 x2 x3 x4 x5 x6 x7 x8 x9 x10 x11 x12 cv cs) [] rfl rfl (.ro 0 rfl .nil)) rfl ?_
  rintro v4 _ ⟨_, rfl, rfl⟩
  refine MxK.al [0, 1, 2] rfl (by kernel_rfl) ?_
  refine Mx.call (vs := [str ([115, 101, 114, 118, 105, 99, 101]), v3, v4]) (caps := []) rfl (by exact C41) rfl rfl (r28_Row ([115, 101, 114, 118, 105, 99, 101]) v3 Cf.heads v4 ([x0, x1, x2, x3, x4, x5, x6, x7, x8, x9, x10, x11, x12]) (by decide) (fun x h => Nat.le_trans (Cf.heads_le x h) (by decide)) (by decide) (by simp only [List.length_cons, List.length_nil]; omega) hI) (fun _ _ h => h) (RoOk.of 1 rfl row_rd [] (by decide) rfl (RoOk.of 0 rfl row_rd [] (by decide) rfl RoOk.nil)) rfl ?_
  refine Mx.l rfl (Lo.bm encS [Cf.row ([115, 101, 114, 118, 105, 99, 101]) Cf.heads ([x0, x1, x2, x3, x4, x5, x6, x7, x8, x9, x10, x11, x12])] U72 Z9 Y9 rfl rfl rfl (by kernel_rfl) rfl rfl) rfl ?_
  rintro V5 _ rfl
  refine MxK.al [1, 2, 3] rfl (by kernel_rfl) ?_
  refine Mx.r 1 rfl ?_
  refine Mx.nil ?_
  refine J.cc 6 rfl ?_
  refine J.lo (X := Nat × Value × List Wd.Bs) (fun (k, V, out) => k ≤ cs.length ∧ out = (Cf.lines [x0, x1, x2, x3, x4, x5, x6, x7, x8, x9, x10, x11, x12] cs).take (k + 1)) (fun (k, V, out) => [(3, V), (4, .int .i64 (k : Int))]) (fun (k, V, out) => [row V 9 1 (out.map encS)]) (fun (k, V, out) => cs.length - k) ⟨0, V5, [Cf.row ([115, 101, 114, 118, 105, 99, 101]) Cf.heads ([x0, x1, x2, x3, x4, x5, x6, x7, x8, x9, x10, x11, x12])]⟩ [1, 2] [0] [3] ⟨by omega, rfl⟩ ⟨rfl, (eqi (by omega)), trivial⟩ rfl rfl ?_
  rintro ⟨k, V, out⟩ ⟨hk, hout⟩
  refine J.co 5 rfl ?_
  refine O.q (Qt.lv 1 A45 rfl rfl rfl) rfl ?_
  refine O.q (Qt.lenM U45 rfl (Src.ro 0 rfl)) rfl ?_
  refine O.oc 2 rfl ?_
  refine J.cd rfl (fun p6 => ?_) (fun p6 => ?_)
  ·
    refine J.co 6 rfl ?_
    refine O.q (Qt.lv 1 A45 rfl rfl rfl) rfl ?_
    refine O.oo 1 rfl ?_
    obtain ⟨e7, he7⟩ := ex_at (l := cs) (i := k) (by omega)
    refine O.q (Qt.idxM U45 Z50 rfl (Src.ro 0 rfl) rfl (by omega) (by omega)) rfl ?_
    refine O.q (Qt.lea A50 Z50 (Src.ro 0 rfl) he7 0 rfl (by omega) rfl) rfl ?_
    refine O.l (Lo.al Y50 rfl) rfl ?_
    rintro _ _ ⟨g8, rfl, rfl⟩
    refine O.l0 (Lo.st 0 Z50 rfl rfl rfl rfl rfl rfl rfl) ?_
    rintro _ _ rfl
    refine O.nil ?_
    refine J.drawA Tryz.mixed ?_
    refine A.edge 1 10 rfl ?_ ?_
    ·
      refine A.mx [(0, false), (2, false), (3, false), (4, false), (5, false), (6, false), (7, false), (8, false), (9, false), (10, true), (1, true), (11, false), (12, true), (13, true), (14, false)] [0] (by kernel_rfl) rfl ?_
      refine Mx.r 2 rfl ?_
      refine Mx.q rfl (Qt.lv 0 A3 rfl rfl rfl) rfl ?_
      refine Mx.r 1 rfl ?_
      refine Mx.q rfl (Qt.lv 0 A3 rfl rfl rfl) rfl ?_
      refine Mx.r 1 rfl ?_
      refine Mx.q rfl (Qt.lv 0 A3 rfl rfl rfl) rfl ?_
      refine Mx.r 1 rfl ?_
      refine Mx.q rfl (Qt.lv 0 A3 rfl rfl rfl) rfl ?_
      refine Mx.l rfl (Lo.bm encZ [e7.to, e7.tier, e7.weight, e7.most] U53 Z3 Y3 rfl rfl rfl (by kernel_rfl) rfl rfl) rfl ?_
      rintro V9 _ rfl
      refine MxK.gp [0, 1] [1] rfl rfl ?_
      refine Mx.l rfl (Lo.ca C78 r28_tails [] rfl rfl .nil) rfl ?_
      rintro v10 _ ⟨_, rfl, rfl⟩
      refine MxK.gp [0, 1, 2] [1, 2] rfl rfl ?_
      refine Mx.call (vs := [str ([99, 97, 108, 108]), v10, V9]) (caps := []) rfl (by exact C41) rfl rfl (r28_Row ([99, 97, 108, 108]) v10 Cf.tails V9 ([e7.to, e7.tier, e7.weight, e7.most]) (by decide) (fun x h => Nat.le_trans (Cf.tails_le x h) (by decide)) (by decide) (by simp only [List.length_cons, List.length_nil]; omega) (hC _ (List.mem_of_getElem? (by assumption)))) (fun _ _ h => h) (RoOk.of 0 rfl row_rd [] (by decide) rfl (RoOk.of 1 rfl row_rd [] (by decide) rfl RoOk.nil)) rfl ?_
      refine Mx.l rfl (Lo.bm encS [Cf.row ([99, 97, 108, 108]) Cf.tails ([e7.to, e7.tier, e7.weight, e7.most])] U72 Z9 Y9 rfl rfl rfl (by kernel_rfl) rfl rfl) rfl ?_
      rintro V11 _ rfl
      refine MxK.gp [1, 2, 3] [0, 1, 2] rfl rfl ?_
      refine Mx.l rfl (Lo.am 4 N72 info9 rfl rfl rfl rfl rfl (Src.row 0 rfl) encS.one (by first | omega | decide | (have ho_ := congrArg List.length hout; rw [List.length_take] at ho_; simp only [List.length_append, List.length_cons, List.length_nil]; omega)) (by first | omega | decide | (have ho_ := congrArg List.length hout; rw [List.length_take] at ho_; simp only [List.length_append, List.length_cons, List.length_nil]; omega))) rfl ?_
      rintro V12 _ rfl
      refine MxK.gp [1, 2, 3] [0, 1, 2] rfl rfl ?_
      refine Mx.r 1 rfl ?_
      refine Mx.nil ?_
      refine J.co 3 rfl ?_
      refine O.p (Pu.add' rfl rfl (by omega)) rfl ?_
      refine O.oc 2 rfl ?_
      exact J.lq ⟨k + 1, V12, out ++ ([Cf.row ([99, 97, 108, 108]) Cf.tails ([e7.to, e7.tier, e7.weight, e7.most])])⟩ [1, 2] [4] [5] ⟨by omega, (by rw [hout]; exact (Cf.lines_next he7).symm)⟩ (by dsimp only; omega) ⟨rfl, (eqi (by omega)), trivial⟩ rfl rfl
    ·
      refine A.mx [(0, false), (2, false), (3, false), (4, false), (5, false), (6, false), (7, false), (8, false), (9, false), (1, true), (10, true), (11, false), (12, true), (13, true), (14, false)] [0] (by kernel_rfl) rfl ?_
      refine Mx.r 2 rfl ?_
      refine Mx.q rfl (Qt.lv 0 A3 rfl rfl rfl) rfl ?_
      refine Mx.r 1 rfl ?_
      refine Mx.q rfl (Qt.lv 0 A3 rfl rfl rfl) rfl ?_
      refine Mx.r 1 rfl ?_
      refine Mx.q rfl (Qt.lv 0 A3 rfl rfl rfl) rfl ?_
      refine Mx.r 1 rfl ?_
      refine Mx.q rfl (Qt.lv 0 A3 rfl rfl rfl) rfl ?_
      refine Mx.l rfl (Lo.ca C78 r28_tails [] rfl rfl .nil) rfl ?_
      rintro v13 _ ⟨_, rfl, rfl⟩
      refine MxK.gp [0, 1] [1] rfl rfl ?_
      refine Mx.l rfl (Lo.bm encZ [e7.to, e7.tier, e7.weight, e7.most] U53 Z3 Y3 rfl rfl rfl (by kernel_rfl) rfl rfl) rfl ?_
      rintro V14 _ rfl
      refine MxK.gp [0, 1, 2] [1, 2] rfl rfl ?_
      refine Mx.call (vs := [str ([99, 97, 108, 108]), v13, V14]) (caps := []) rfl (by exact C41) rfl rfl (r28_Row ([99, 97, 108, 108]) v13 Cf.tails V14 ([e7.to, e7.tier, e7.weight, e7.most]) (by decide) (fun x h => Nat.le_trans (Cf.tails_le x h) (by decide)) (by decide) (by simp only [List.length_cons, List.length_nil]; omega) (hC _ (List.mem_of_getElem? (by assumption)))) (fun _ _ h => h) (RoOk.of 1 rfl row_rd [] (by decide) rfl (RoOk.of 0 rfl row_rd [] (by decide) rfl RoOk.nil)) rfl ?_
      refine Mx.l rfl (Lo.bm encS [Cf.row ([99, 97, 108, 108]) Cf.tails ([e7.to, e7.tier, e7.weight, e7.most])] U72 Z9 Y9 rfl rfl rfl (by kernel_rfl) rfl rfl) rfl ?_
      rintro V15 _ rfl
      refine MxK.gp [1, 2, 3] [0, 1, 2] rfl rfl ?_
      refine Mx.l rfl (Lo.am 4 N72 info9 rfl rfl rfl rfl rfl (Src.row 0 rfl) encS.one (by first | omega | decide | (have ho_ := congrArg List.length hout; rw [List.length_take] at ho_; simp only [List.length_append, List.length_cons, List.length_nil]; omega)) (by first | omega | decide | (have ho_ := congrArg List.length hout; rw [List.length_take] at ho_; simp only [List.length_append, List.length_cons, List.length_nil]; omega))) rfl ?_
      rintro V16 _ rfl
      refine MxK.gp [1, 2, 3] [0, 1, 2] rfl rfl ?_
      refine Mx.r 1 rfl ?_
      refine Mx.nil ?_
      refine J.co 3 rfl ?_
      refine O.p (Pu.add' rfl rfl (by omega)) rfl ?_
      refine O.oc 2 rfl ?_
      exact J.lq ⟨k + 1, V16, out ++ ([Cf.row ([99, 97, 108, 108]) Cf.tails ([e7.to, e7.tier, e7.weight, e7.most])])⟩ [1, 2] [4] [5] ⟨by omega, (by rw [hout]; exact (Cf.lines_next he7).symm)⟩ (by dsimp only; omega) ⟨rfl, (eqi (by omega)), trivial⟩ rfl rfl
  ·
    refine J.cc 6 rfl ?_
    exact J.r1 [0] rfl rfl rfl (congrArg (fun (o : List Wd.Bs) => ([row V 9 1 (o.map encS)] : List Sp)) (show out = Cf.lines [x0, x1, x2, x3, x4, x5, x6, x7, x8, x9, x10, x11, x12] cs from (by rw [hout, Cf.lines_all (by omega)])))

end Go.Proofs.YtnhfgnnpbipcnaaGreatDoor
