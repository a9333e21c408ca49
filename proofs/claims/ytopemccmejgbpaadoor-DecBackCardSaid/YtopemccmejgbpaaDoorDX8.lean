/-
  Walks, printed by a program of mine (lk.py): each function meets its contract.
-/
import Derived.KernelRfl
import Derived.Test.YtopemccmejgbpaaDoorDX7
namespace Go.Proofs.YtopemccmejgbpaaDoor
open Go Go.LK
set_option linter.unusedSimpArgs false

set_option maxRecDepth 100000 in
theorem r05_ParseList (s : List UInt8) (hs : s.length ≤ 1000000) : Tri Tryd.prog 16 #[str s] [] [] (fun v L' => ∃ V', v = .tuple #[V', .int .i64 (Dc.parseList s).2] ∧ L' = [row V' 3 1 ((Dc.parseList s).1.map encZ)]) := by
  refine Tri.enter (args := [str s]) (body := _) 35 Tryd.func16 rfl Tryd.ntmps16 rfl ?_
  intro w0
  refine J.seq ?_
  refine J.region ?_
  refine O.p (Pu.assign rfl) rfl ?_
  refine O.p (Pu.assign rfl) rfl ?_
  refine O.nil ?_
  refine J.seq ?_
  refine J.seq ?_
  refine J.region ?_
  refine O.p (Pu.move rfl) rfl ?_
  refine O.p (Pu.sEql rfl rfl) rfl ?_
  refine O.nil ?_
  refine J.cond rfl (fun h1 => ?_) (fun h1 => ?_)
  ·
    refine J.seq ?_
    refine J.region ?_
    refine O.p (Pu.assign rfl) rfl ?_
    refine O.p (Pu.assign rfl) rfl ?_
    refine O.nil ?_
    refine J.nilRow 3 1 ?_
    exact J.ret (Fin.ret (rs := [.tmp 2, .tmp 3]) rfl [_, _] ⟨rfl, rfl, trivial⟩ [0] (by decide) [row (Value.slice none 0 0) 3 1 (([] : List Int).map encZ)] rfl ⟨Value.slice none 0 0, (by first | (rw [Dc.pl_dash (by assumption)]; done) | (rw [Dc.pl_dash (by assumption)]; rfl)), (by first | (rw [Dc.pl_dash (by assumption)]; done) | (rw [Dc.pl_dash (by assumption)]; rfl))⟩)
  ·
    refine J.skip ?_
    refine J.seq ?_
    refine J.region ?_
    refine O.p (Pu.assign rfl) rfl ?_
    refine O.nil ?_
    refine J.seq ?_
    refine J.region ?_
    refine O.p (Pu.move rfl) rfl ?_
    refine O.l (Lo.call [str s, .int .u8 44] (by exact Tryd.call24) rfl (r05_Parts s (by first | omega | (have h_ := Dc.split_part s _ (List.mem_of_getElem? (by assumption)); omega))) [] [] (by decide) rfl _ rfl RoOk.nil) rfl ?_
    rintro v2 _ ⟨_, rfl, rfl⟩
    refine O.p (Pu.assign rfl) rfl ?_
    refine O.nil ?_
    refine J.seq ?_
    refine J.seq ?_
    refine J.region ?_
    refine O.p (Pu.assign rfl) rfl ?_
    refine O.nil ?_
    refine J.block ?_
    refine J.nilRow 3 1 ?_
    refine J.loop (X := Nat × Value × List Int) (fun ξ => ξ.1 ≤ (Lib.split s [44]).length ∧ Dc.plU (Lib.split s [44]) ξ.1 = some ξ.2.2) (fun ξ => [(4, ξ.2.1), (5, v2), (6, .int .i64 (ξ.1 : Int))]) (fun ξ => [row v2 9 1 ((Lib.split s [44]).map encS), row ξ.2.1 3 1 (ξ.2.2.map encZ)]) (fun ξ => (Lib.split s [44]).length - ξ.1) ⟨0, Value.slice none 0 0, []⟩ (show 0 ≤ (Lib.split s [44]).length ∧ Dc.plU (Lib.split s [44]) 0 = some ([]) from ⟨by omega, rfl⟩) ⟨rfl, rfl, (congrArg (fun z => some (Value.int .i64 z)) (by first | rfl | omega : (0 : Int) = (0 : Int))), trivial⟩ [1, 0] (by decide) rfl ?_
    rintro ⟨k, V, out⟩ hq3
    obtain ⟨hk, hst⟩ : k ≤ (Lib.split s [44]).length ∧ Dc.plU (Lib.split s [44]) k = some out := hq3
    show J _ _ [(4, V), (5, v2), (6, .int .i64 (k : Int))] [row v2 9 1 ((Lib.split s [44]).map encS), row V 3 1 (out.map encZ)]
    refine J.seq ?_
    refine J.seq ?_
    refine J.region ?_
    refine O.p (Pu.move rfl) rfl ?_
    refine O.p (Pu.move rfl) rfl ?_
    refine O.q (Qt.lenM Tryd.runUnderlying48 rfl (Src.row 0 rfl)) rfl ?_
    refine O.p (Pu.lss rfl rfl) rfl ?_
    refine O.nil ?_
    refine J.cond rfl (fun h4 => ?_) (fun h4 => ?_)
    ·
      have p5 := of_decide_eq_true h4
      refine J.skip ?_
      refine J.seq ?_
      refine J.block ?_
      refine J.seq ?_
      refine J.region ?_
      refine O.p (Pu.move rfl) rfl ?_
      refine O.p (Pu.move rfl) rfl ?_
      obtain ⟨e6, he6⟩ : ∃ x_, (Lib.split s [44])[k]? = some x_ := ⟨_, List.getElem?_eq_getElem (by first | omega | (have h_ := Dc.split_part s _ (List.mem_of_getElem? (by assumption)); omega) | (have h1_ := Dc.plU_len hst; have h2_ := Dc.split_len s; simp only [List.length_append, List.length_cons, List.length_nil]; omega))⟩
      refine O.q (Qt.idxM Tryd.runUnderlying48 Tryd.sizeOf9 rfl (Src.row 0 rfl) rfl (by first | omega | (have h_ := Dc.split_part s _ (List.mem_of_getElem? (by assumption)); omega) | (have h1_ := Dc.plU_len hst; have h2_ := Dc.split_len s; simp only [List.length_append, List.length_cons, List.length_nil]; omega)) (by first | omega | (have h_ := Dc.split_part s _ (List.mem_of_getElem? (by assumption)); omega) | (have h1_ := Dc.plU_len hst; have h2_ := Dc.split_len s; simp only [List.length_append, List.length_cons, List.length_nil]; omega))) rfl ?_
      refine O.q (Qt.ld rfl (Cel.eltM (Src.row 0 rfl) he6) (o := (voff v2 + k * 1)) (off := 0) (by omega) (Cut.one Tryd.isAgg9 rfl)) rfl ?_
      refine O.l (Lo.call [str e6] (by exact Tryd.call8) rfl (r05_Parse e6 (by first | omega | (have h_ := Dc.split_part s _ (List.mem_of_getElem? (by assumption)); omega))) [] [0, 1] (by decide) rfl _ rfl RoOk.nil) rfl ?_
      rintro _ _ ⟨_, ⟨rfl, rfl⟩, rfl⟩
      refine O.p (Pu.move rfl) rfl ?_
      refine O.p (Pu.extract rfl rfl) rfl ?_
      refine O.p (Pu.extract rfl rfl) rfl ?_
      refine O.p (Pu.assign rfl) rfl ?_
      refine O.p (Pu.assign rfl) rfl ?_
      refine O.nil ?_
      refine J.seq ?_
      refine J.seq ?_
      refine J.region ?_
      refine O.p (Pu.move rfl) rfl ?_
      refine O.p (Pu.neq rfl rfl) rfl ?_
      refine O.nil ?_
      refine J.cond rfl (fun h8 => ?_) (fun h8 => ?_)
      ·
        have p9 := of_decide_eq_true h8
        refine J.seq ?_
        refine J.region ?_
        refine O.p (Pu.move rfl) rfl ?_
        refine O.p (Pu.assign rfl) rfl ?_
        refine O.p (Pu.assign rfl) rfl ?_
        refine O.nil ?_
        refine J.nilRow 3 1 ?_
        exact J.ret (Fin.ret (rs := [.tmp 2, .tmp 3]) rfl [_, _] ⟨rfl, rfl, trivial⟩ [0] (by decide) [row (Value.slice none 0 0) 3 1 (([] : List Int).map encZ)] rfl ⟨Value.slice none 0 0, (by first | (rw [Dc.pl_bad (by assumption) hst (by assumption) (by omega)]; done) | (rw [Dc.pl_bad (by assumption) hst (by assumption) (by omega)]; rfl)), (by first | (rw [Dc.pl_bad (by assumption) hst (by assumption) (by omega)]; done) | (rw [Dc.pl_bad (by assumption) hst (by assumption) (by omega)]; rfl))⟩)
      ·
        have p10 := of_decide_eq_false h8
        refine J.skip ?_
        refine J.region ?_
        refine O.p (Pu.move rfl) rfl ?_
        refine O.p (Pu.move rfl) rfl ?_
        refine O.l (Lo.buildM (s := 1) encZ [(Dc.parse e6).1] [(0, .int .i64 ((Dc.parse e6).1))] (by exact Tryd.runUnderlying32) (by exact Tryd.sizeOf3) (by exact Tryd.zeroValue3) rfl rfl rfl (by kernel_rfl) rfl rfl) rfl ?_
        rintro V11 _ rfl
        refine O.l (Lo.appendM (s := 1) 2 (by exact Tryd.underlying32) (by exact (info3).1) (by exact (info3).2.1) (by exact (info3).2.2.1) (by exact (info3).2.2.2) rfl rfl rfl rfl rfl (Src.row 0 rfl) encZ.one (by first | omega | (have h_ := Dc.split_part s _ (List.mem_of_getElem? (by assumption)); omega) | (have h1_ := Dc.plU_len hst; have h2_ := Dc.split_len s; simp only [List.length_append, List.length_cons, List.length_nil]; omega)) (by first | omega | (have h_ := Dc.split_part s _ (List.mem_of_getElem? (by assumption)); omega) | (have h1_ := Dc.plU_len hst; have h2_ := Dc.split_len s; simp only [List.length_append, List.length_cons, List.length_nil]; omega))) rfl ?_
        rintro V12 _ rfl
        refine O.p (Pu.assign rfl) rfl ?_
        refine O.nil ?_
        refine J.blk ?_
        refine J.region ?_
        refine O.p (Pu.move rfl) rfl ?_
        refine O.p (Pu.add' rfl rfl (by first | omega | (have h2_ := Dc.split_len s; omega))) rfl ?_
        refine O.p (Pu.assign rfl) rfl ?_
        refine O.nil ?_
        exact J.lp ⟨k + 1, V12, out ++ ([(Dc.parse e6).1])⟩ (show (k + 1) ≤ (Lib.split s [44]).length ∧ Dc.plU (Lib.split s [44]) (k + 1) = some (out ++ ([(Dc.parse e6).1])) from ⟨by omega, Dc.plU_next hst (by assumption) (by omega)⟩) (show (Lib.split s [44]).length - (k + 1) < (Lib.split s [44]).length - k from (by first | omega | (have h_ := Dc.split_part s _ (List.mem_of_getElem? (by assumption)); omega) | (have h1_ := Dc.plU_len hst; have h2_ := Dc.split_len s; simp only [List.length_append, List.length_cons, List.length_nil]; omega))) ⟨rfl, rfl, (congrArg (fun z => some (Value.int .i64 z)) (by first | rfl | omega : ((k : Int) + 1 : Int) = ((k + 1) : Int))), trivial⟩ [1, 2] (by decide) rfl
    ·
      have p13 := of_decide_eq_false h4
      refine J.exit _ rfl ?_
      refine J.seq ?_
      refine J.region ?_
      refine O.p (Pu.move rfl) rfl ?_
      refine O.p (Pu.assign rfl) rfl ?_
      refine O.p (Pu.assign rfl) rfl ?_
      refine O.nil ?_
      exact J.ret (Fin.ret (rs := [.tmp 2, .tmp 3]) rfl [_, _] ⟨rfl, rfl, trivial⟩ [1] (by decide) [row V 3 1 (out.map encZ)] rfl ⟨V, (by first | (rw [Dc.pl_all (by assumption) (by have hk_ : k = (Lib.split s [44]).length := (by omega); rw [← hk_]; exact hst)]; done) | (rw [Dc.pl_all (by assumption) (by have hk_ : k = (Lib.split s [44]).length := (by omega); rw [← hk_]; exact hst)]; rfl)), (by first | (rw [Dc.pl_all (by assumption) (by have hk_ : k = (Lib.split s [44]).length := (by omega); rw [← hk_]; exact hst)]; done) | (rw [Dc.pl_all (by assumption) (by have hk_ : k = (Lib.split s [44]).length := (by omega); rw [← hk_]; exact hst)]; rfl))⟩)

end Go.Proofs.YtopemccmejgbpaaDoor
