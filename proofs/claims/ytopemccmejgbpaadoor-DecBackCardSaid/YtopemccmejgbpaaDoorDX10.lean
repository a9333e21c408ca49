/-
  Walks, printed by a program of mine (lk.py): each function meets its contract.
-/
import Derived.KernelRfl
import Derived.Test.YtopemccmejgbpaaDoorDX9
import Derived.Test.YtopemccmejgbpaaDoorDec4
namespace Go.Proofs.YtopemccmejgbpaaDoor
open Go Go.LK
set_option linter.unusedSimpArgs false

set_option maxRecDepth 100000 in
theorem law05_decBack (lv : Value) (l : List Int) (x : Nat) (s : List UInt8) (hI : Dc.I64s l) (hx : x < 18446744073709551616) : Tri Tryd.prog 5 #[lv, .int .u64 (Nat.cast x : Int), str s] [libW, var 0 (Hx.hexDigits.map valU8) 46, rd lv 1 (l.map encZ)] [] (fun v L' => v = .bool true ∧ L' = []) := by
  refine Tri.enter (args := [lv, .int .u64 (Nat.cast x : Int), str s]) (body := _) 96 Tryd.func5 rfl Tryd.ntmps5 rfl ?_
  intro w0
  refine J.seq ?_
  refine J.region ?_
  refine O.p (Pu.assign rfl) rfl ?_
  refine O.nil ?_
  refine J.seq ?_
  refine J.seq ?_
  refine J.region ?_
  refine O.p (Pu.move rfl) rfl ?_
  refine O.q (Qt.lenM Tryd.runUnderlying32 rfl (Src.ro 2 rfl)) rfl ?_
  refine O.p (Pu.gtr rfl rfl) rfl ?_
  refine O.p (Pu.move rfl) rfl ?_
  refine by_bool (decide (40 < (l.length : Int))) (fun h1 => ?_) (fun h1 => ?_)
  ·
    have p2 := of_decide_eq_true h1
    refine O.gskip (t := 19) rfl rfl (no_bool (by rw [h1]; decide)) rfl rfl ?_
    refine O.gskip (t := 19) rfl rfl (no_bool (by rw [h1]; decide)) rfl rfl ?_
    refine O.gskip (t := 19) rfl rfl (no_bool (by rw [h1]; decide)) rfl rfl ?_
    refine O.p (Pu.pickT rfl h1 rfl) rfl ?_
    refine O.nil ?_
    refine J.condT rfl rfl ?_
    refine J.seq ?_
    refine J.region ?_
    refine O.l (Lo.call [] (by exact Tryd.call6) rfl law05_awake [] [] (by decide) rfl _ rfl (RoOk.ro 0 rfl [] rfl (RoOk.ro 1 rfl [] rfl RoOk.nil))) rfl ?_
    rintro _ _ ⟨_, ⟨rfl, rfl⟩, rfl⟩
    refine O.p (Pu.assign rfl) rfl ?_
    refine O.nil ?_
    exact J.ret (Fin.ret (rs := [.tmp 6]) rfl [_] ⟨rfl, trivial⟩ [] (by decide) [] rfl ⟨rfl, rfl⟩)
  ·
    have p4 := of_decide_eq_false h1
    refine O.gq (t := 19) rfl rfl h1 rfl (Pu.qt (Pu.move rfl)) rfl ?_
    refine O.gq (t := 19) rfl rfl h1 rfl (Pu.qt (Pu.sLen Tryd.runUnderlying9 rfl)) rfl ?_
    refine O.gq (t := 19) rfl rfl h1 rfl (Pu.qt (Pu.gtr rfl rfl)) rfl ?_
    refine O.p (Pu.pickF rfl h1 rfl) rfl ?_
    refine O.nil ?_
    refine J.cond rfl (fun h5 => ?_) (fun h5 => ?_)
    ·
      have p6 := of_decide_eq_true h5
      refine J.seq ?_
      refine J.region ?_
      refine O.l (Lo.call [] (by exact Tryd.call6) rfl law05_awake [] [] (by decide) rfl _ rfl (RoOk.ro 0 rfl [] rfl (RoOk.ro 1 rfl [] rfl RoOk.nil))) rfl ?_
      rintro _ _ ⟨_, ⟨rfl, rfl⟩, rfl⟩
      refine O.p (Pu.assign rfl) rfl ?_
      refine O.nil ?_
      exact J.ret (Fin.ret (rs := [.tmp 6]) rfl [_] ⟨rfl, trivial⟩ [] (by decide) [] rfl ⟨rfl, rfl⟩)
    ·
      have p8 := of_decide_eq_false h5
      refine J.skip ?_
      refine J.seq ?_
      refine J.seq ?_
      refine J.region ?_
      refine O.p (Pu.assign rfl) rfl ?_
      refine O.nil ?_
      refine J.block ?_
      refine J.loop (X := Nat) (fun ξ => ξ ≤ l.length) (fun ξ => [(0, lv), (1, .int .u64 (Nat.cast x : Int)), (2, str s), (7, .int .i64 (ξ : Int))]) (fun ξ => []) (fun ξ => l.length - ξ) 0 (show 0 ≤ l.length from (by omega)) ⟨rfl, rfl, rfl, (congrArg (fun z => some (Value.int .i64 z)) (by first | rfl | omega : (0 : Int) = (0 : Int))), trivial⟩ [] (by decide) rfl ?_
      rintro k hq9
      obtain hk : k ≤ l.length := hq9
      show J _ _ [(0, lv), (1, .int .u64 (Nat.cast x : Int)), (2, str s), (7, .int .i64 (k : Int))] []
      refine J.seq ?_
      refine J.seq ?_
      refine J.region ?_
      refine O.p (Pu.move rfl) rfl ?_
      refine O.p (Pu.move rfl) rfl ?_
      refine O.q (Qt.lenM Tryd.runUnderlying32 rfl (Src.ro 2 rfl)) rfl ?_
      refine O.p (Pu.lss rfl rfl) rfl ?_
      refine O.nil ?_
      refine J.cond rfl (fun h10 => ?_) (fun h10 => ?_)
      ·
        have p11 := of_decide_eq_true h10
        refine J.skip ?_
        refine J.seq ?_
        refine J.block ?_
        refine J.seq ?_
        refine J.region ?_
        refine O.p (Pu.move rfl) rfl ?_
        refine O.p (Pu.move rfl) rfl ?_
        obtain ⟨e12, he12⟩ : ∃ x_, l[k]? = some x_ := ⟨_, List.getElem?_eq_getElem (by first | omega | (have h_ := hI _ (List.mem_of_getElem? (by assumption)); unfold Dc.I64 at h_; omega))⟩
        refine O.q (Qt.idxM Tryd.runUnderlying32 Tryd.sizeOf3 rfl (Src.ro 2 rfl) rfl (by first | omega | (have h_ := hI _ (List.mem_of_getElem? (by assumption)); unfold Dc.I64 at h_; omega)) (by first | omega | (have h_ := hI _ (List.mem_of_getElem? (by assumption)); unfold Dc.I64 at h_; omega))) rfl ?_
        refine O.q (Qt.ld rfl (Cel.eltM (Src.ro 2 rfl) he12) (o := (voff lv + k * 1)) (off := 0) (by omega) (Cut.one Tryd.isAgg3 rfl)) rfl ?_
        refine O.l (Lo.call [.int .i64 e12] (by exact Tryd.call11) rfl (dec_Text e12 (by first | omega | (have h_ := hI _ (List.mem_of_getElem? (by assumption)); unfold Dc.I64 at h_; omega)) (by first | omega | (have h_ := hI _ (List.mem_of_getElem? (by assumption)); unfold Dc.I64 at h_; omega))) [] [] (by decide) rfl _ rfl (RoOk.ro 0 rfl [] rfl RoOk.nil)) rfl ?_
        rintro _ _ ⟨_, ⟨rfl, rfl⟩, rfl⟩
        refine O.l (Lo.call [str (Lib.itoa e12)] (by exact Tryd.call7) rfl (dec_Parse_eq (Lib.itoa e12) e12 0 (by have h_ := Dc.itoa_le (hI _ (List.mem_of_getElem? (by assumption))); omega) (Dc.parse_some (hI _ (List.mem_of_getElem? (by assumption))))) [] [] (by decide) rfl _ rfl (RoOk.ro 0 rfl [] rfl RoOk.nil)) rfl ?_
        rintro _ _ ⟨_, ⟨rfl, rfl⟩, rfl⟩
        refine O.p (Pu.move rfl) rfl ?_
        refine O.p (Pu.extract rfl rfl) rfl ?_
        refine O.p (Pu.extract rfl rfl) rfl ?_
        refine O.p (Pu.assign rfl) rfl ?_
        refine O.p (Pu.assign rfl) rfl ?_
        refine O.nil ?_
        refine J.seq ?_
        refine J.region ?_
        refine O.p (Pu.move rfl) rfl ?_
        refine O.p (Pu.move rfl) rfl ?_
        refine O.p (Pu.move rfl) rfl ?_
        refine O.q (Qt.idxM Tryd.runUnderlying32 Tryd.sizeOf3 rfl (Src.ro 2 rfl) rfl (by first | omega | (have h_ := hI _ (List.mem_of_getElem? (by assumption)); unfold Dc.I64 at h_; omega)) (by first | omega | (have h_ := hI _ (List.mem_of_getElem? (by assumption)); unfold Dc.I64 at h_; omega))) rfl ?_
        refine O.q (Qt.ld rfl (Cel.eltM (Src.ro 2 rfl) he12) (o := (voff lv + k * 1)) (off := 0) (by omega) (Cut.one Tryd.isAgg3 rfl)) rfl ?_
        refine O.p (Pu.neq rfl rfl) rfl ?_
        refine O.p (Pu.move rfl) rfl ?_
        refine O.gq (t := 46) rfl rfl (by simp) rfl (Pu.qt (Pu.move rfl)) rfl ?_
        refine O.gq (t := 46) rfl rfl (by simp) rfl (Pu.qt (Pu.neq rfl rfl)) rfl ?_
        refine O.p (Pu.pickF rfl (by simp) rfl) rfl ?_
        refine O.nil ?_
        refine J.condF rfl rfl ?_
        refine J.skip ?_
        refine J.blk ?_
        refine J.region ?_
        refine O.p (Pu.move rfl) rfl ?_
        refine O.p (Pu.add' rfl rfl (by first | omega | (simp only [List.length_append, List.length_cons, List.length_nil, List.length_set]; omega))) rfl ?_
        refine O.p (Pu.assign rfl) rfl ?_
        refine O.nil ?_
        exact J.lp (k + 1) (show (k + 1) ≤ l.length from (by omega)) (show l.length - (k + 1) < l.length - k from (by first | omega | (have h_ := hI _ (List.mem_of_getElem? (by assumption)); unfold Dc.I64 at h_; omega))) ⟨rfl, rfl, rfl, (congrArg (fun z => some (Value.int .i64 z)) (by first | rfl | omega : ((k : Int) + 1 : Int) = ((k + 1) : Int))), trivial⟩ [] (by decide) rfl
      ·
        have p15 := of_decide_eq_false h10
        refine J.exit _ rfl ?_
        refine J.seq ?_
        refine J.region ?_
        refine O.p (Pu.move rfl) rfl ?_
        refine O.l (Lo.call [lv] (by exact Tryd.call17) rfl (dec_List lv l (by first | omega | (have h_ := Dc.pl_len s; omega)) (by first | assumption | exact Dc.pl_I64 s)) [] [] (by decide) rfl _ rfl (RoOk.ro 0 rfl [] rfl (RoOk.ro 2 rfl [] rfl RoOk.nil))) rfl ?_
        rintro _ _ ⟨_, ⟨rfl, rfl⟩, rfl⟩
        refine O.l (Lo.call [str (Dc.listText l)] (by exact Tryd.call15) rfl (dec_ParseList_eq (Dc.listText l) l 0 (by have h_ := Dc.lt_len hI; omega) (Dc.list_back hI)) [] [] (by decide) rfl _ rfl (RoOk.ro 0 rfl [] rfl RoOk.nil)) rfl ?_
        rintro _ _ ⟨_, ⟨V17, rfl, rfl⟩, rfl⟩
        refine O.p (Pu.move rfl) rfl ?_
        refine O.p (Pu.extract rfl rfl) rfl ?_
        refine O.p (Pu.extract rfl rfl) rfl ?_
        refine O.p (Pu.assign rfl) rfl ?_
        refine O.p (Pu.assign rfl) rfl ?_
        refine O.nil ?_
        refine J.seq ?_
        refine J.region ?_
        refine O.p (Pu.move rfl) rfl ?_
        refine O.l (Lo.call [.int .u64 (Nat.cast x : Int)] (by exact Tryd.call13) rfl (dec_Hex x (by assumption)) [] [0] (by decide) rfl _ rfl (RoOk.ro 1 rfl [] rfl RoOk.nil)) rfl ?_
        rintro _ _ ⟨_, ⟨rfl, rfl⟩, rfl⟩
        refine O.l (Lo.call [str (Hx.hexL x 16)] (by exact Tryd.call9) rfl (dec_ParseHex_eq (Hx.hexL x 16) x 0 (Hx.hex_back hx)) [] [0] (by decide) rfl _ rfl (RoOk.ro 1 rfl [] rfl RoOk.nil)) rfl ?_
        rintro _ _ ⟨_, ⟨rfl, rfl⟩, rfl⟩
        refine O.p (Pu.move rfl) rfl ?_
        refine O.p (Pu.extract rfl rfl) rfl ?_
        refine O.p (Pu.extract rfl rfl) rfl ?_
        refine O.p (Pu.assign rfl) rfl ?_
        refine O.p (Pu.assign rfl) rfl ?_
        refine O.nil ?_
        refine J.seq ?_
        refine J.region ?_
        refine O.p (Pu.move rfl) rfl ?_
        refine O.l (Lo.call [str s] (by exact Tryd.call15) rfl (dec_ParseList s (by first | omega | (have h_ := hI _ (List.mem_of_getElem? (by assumption)); unfold Dc.I64 at h_; omega))) [] [0] (by decide) rfl _ rfl (RoOk.ro 0 rfl [] rfl RoOk.nil)) rfl ?_
        rintro _ _ ⟨_, ⟨V21, rfl, rfl⟩, rfl⟩
        refine O.p (Pu.move rfl) rfl ?_
        refine O.p (Pu.extract rfl rfl) rfl ?_
        refine O.p (Pu.extract rfl rfl) rfl ?_
        refine O.p (Pu.assign rfl) rfl ?_
        refine O.p (Pu.assign rfl) rfl ?_
        refine O.nil ?_
        refine J.seq ?_
        refine J.region ?_
        refine O.p (Pu.move rfl) rfl ?_
        refine O.p (Pu.move rfl) rfl ?_
        refine O.l (Lo.call [V17, lv] (by exact Tryd.call19) rfl (r01_Same V17 lv l (by first | omega | (have h_ := Dc.pl_len s; omega))) [] [0, 1] (by decide) rfl _ rfl (RoOk.of 1 rfl row_rd [] (by decide) rfl (RoOk.ro 2 rfl [] rfl RoOk.nil))) rfl ?_
        rintro _ _ ⟨_, ⟨rfl, rfl⟩, rfl⟩
        refine O.p (Pu.move rfl) rfl ?_
        refine O.gq (t := 70) rfl rfl rfl rfl (Pu.qt (Pu.move rfl)) rfl ?_
        refine O.gq (t := 70) rfl rfl rfl rfl (Pu.qt (Pu.eql rfl rfl)) rfl ?_
        refine O.p (Pu.pickT rfl rfl rfl) rfl ?_
        refine O.p (Pu.move rfl) rfl ?_
        refine O.gq (t := 74) rfl rfl rfl rfl (Pu.qt (Pu.move rfl)) rfl ?_
        refine O.gq (t := 74) rfl rfl rfl rfl (Pu.qt (Pu.move rfl)) rfl ?_
        refine O.gq (t := 74) rfl rfl rfl rfl (Pu.qt (Pu.eql rfl rfl)) rfl ?_
        refine O.p (Pu.pickT rfl rfl rfl) rfl ?_
        refine O.p (Pu.move rfl) rfl ?_
        refine O.gq (t := 79) rfl rfl (by simp) rfl (Pu.qt (Pu.move rfl)) rfl ?_
        refine O.gq (t := 79) rfl rfl (by simp) rfl (Pu.qt (Pu.eql rfl rfl)) rfl ?_
        refine O.p (Pu.pickT rfl (by simp) rfl) rfl ?_
        refine O.p (Pu.move rfl) rfl ?_
        refine O.gq (t := 83) rfl rfl rfl rfl (Pu.qt (Pu.move rfl)) rfl ?_
        refine O.gq (t := 83) rfl rfl rfl rfl (Pu.qt (Pu.neq rfl rfl)) rfl ?_
        refine O.gq (t := 83) rfl rfl rfl rfl (Pu.qt (Pu.move rfl)) rfl ?_
        refine by_bool (decide (((Dc.parseList s).2) ≠ 0)) (fun h24 => ?_) (fun h24 => ?_)
        ·
          have p25 := of_decide_eq_true h24
          refine O.gskip (t := 86) rfl rfl (no_bool (by rw [h24]; decide)) rfl rfl ?_
          refine O.gskip (t := 86) rfl rfl (no_bool (by rw [h24]; decide)) rfl rfl ?_
          refine O.gskip (t := 86) rfl rfl (no_bool (by rw [h24]; decide)) rfl rfl ?_
          refine O.gskip (t := 86) rfl rfl (no_bool (by rw [h24]; decide)) rfl rfl ?_
          refine O.gq (t := 83) rfl rfl rfl rfl (Pu.qt (Pu.pickT rfl h24 rfl)) rfl ?_
          refine O.p (Pu.pickT rfl rfl rfl) rfl ?_
          refine O.p (Pu.move rfl) rfl ?_
          refine O.gl (t := 93) rfl rfl rfl rfl (Lo.call [] (by exact Tryd.call6) rfl law05_awake [] [0, 1] (by decide) rfl _ rfl (RoOk.ro 0 rfl [] rfl (RoOk.ro 1 rfl [] rfl RoOk.nil))) rfl ?_
          rintro _ _ ⟨_, ⟨rfl, rfl⟩, rfl⟩
          refine O.p (Pu.pickT rfl rfl rfl) rfl ?_
          refine O.p (Pu.assign rfl) rfl ?_
          refine O.nil ?_
          exact J.ret (Fin.ret (rs := [.tmp 6]) rfl [_] ⟨rfl, trivial⟩ [] (by decide) [] rfl ⟨rfl, rfl⟩)
        ·
          have p27 := of_decide_eq_false h24
          refine O.gq (t := 86) rfl rfl h24 rfl (Pu.qt (Pu.move rfl)) rfl ?_
          refine O.gl (t := 86) rfl rfl h24 rfl (Lo.call [V21] (by exact Tryd.call17) rfl (dec_List V21 ((Dc.parseList s).1) (by first | omega | (have h_ := Dc.pl_len s; omega)) (by first | assumption | exact Dc.pl_I64 s)) [] [0, 1] (by decide) rfl _ rfl (RoOk.ro 0 rfl [] rfl (RoOk.of 0 rfl row_rd [] (by decide) rfl RoOk.nil))) rfl ?_
          rintro _ _ ⟨_, ⟨rfl, rfl⟩, rfl⟩
          refine O.gq (t := 86) rfl rfl h24 rfl (Pu.qt (Pu.move rfl)) rfl ?_
          refine O.gq (t := 86) rfl rfl h24 rfl (Pu.qt (Pu.sEql rfl rfl)) rfl ?_
          refine O.gq (t := 83) rfl rfl rfl rfl (Pu.qt (Pu.pickF rfl h24 rfl)) rfl ?_
          refine O.p (Pu.pickT rfl rfl rfl) rfl ?_
          refine O.p (Pu.move rfl) rfl ?_
          refine O.gl (t := 93) rfl rfl (by rw [Dc.text_back (by omega)]; exact beq_self_eq_true _) rfl (Lo.call [] (by exact Tryd.call6) rfl law05_awake [] [0, 1] (by decide) rfl _ rfl (RoOk.ro 0 rfl [] rfl (RoOk.ro 1 rfl [] rfl RoOk.nil))) rfl ?_
          rintro _ _ ⟨_, ⟨rfl, rfl⟩, rfl⟩
          refine O.p (Pu.pickT rfl (by rw [Dc.text_back (by omega)]; exact beq_self_eq_true _) rfl) rfl ?_
          refine O.p (Pu.assign rfl) rfl ?_
          refine O.nil ?_
          exact J.ret (Fin.ret (rs := [.tmp 6]) rfl [_] ⟨rfl, trivial⟩ [] (by decide) [] rfl ⟨rfl, rfl⟩)

end Go.Proofs.YtopemccmejgbpaaDoor
