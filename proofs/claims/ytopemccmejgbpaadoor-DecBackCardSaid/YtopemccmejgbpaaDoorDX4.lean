/-
  Walks, printed by a program of mine (lk.py): each function meets its contract.
-/
import Derived.KernelRfl
import Derived.Test.YtopemccmejgbpaaDoorDX1
import Derived.Test.YtopemccmejgbpaaDoorDec2
import Derived.Test.YtopemccmejgbpaaDoorNums05
namespace Go.Proofs.YtopemccmejgbpaaDoor
open Go Go.LK
set_option linter.unusedSimpArgs false

theorem s_Split (s : List UInt8) (hs : s.length < 4294967281) : Tri Tryd.prog 23 #[str s, str [44]] [libW] [] (fun v L' => L' = [row v 9 1 ((Lib.split s [44]).map encS)]) := by
  have hlen : Lib.countB ⟨s.toArray⟩ ⟨[44].toArray⟩ + 1 = (Lib.split s [44]).length := by
    have h1 := Lib.splitB_all ⟨[44].toArray⟩ (by decide) 0 _ ⟨s.toArray⟩ rfl
    rw [← h1, ← List.length_map (f := (·.data.toList)), Lib.splitB_data]
    rfl
  refine Tri.libRow (by intro x hx; obtain ⟨y, _, rfl⟩ := List.mem_map.1 hx; rfl) (by rw [List.length_map]; have := Dc.split_len s; omega) fun w hro => ?_
  obtain ⟨⟨m, hm⟩, _⟩ := hro libW (by simp)
  refine (Tryd.strings_Split ⟨s.toArray⟩ ⟨[44].toArray⟩ m w (by rw [size_mk]; exact hs) hm (by decide)).mono fun e w' ⟨he, hw⟩ => ?_
  rw [hlen] at he
  rw [List.length_map]
  refine ⟨he, hw.trans ?_⟩
  rw [flatten_encS, strings_of, Lib.splitB_data]
  rfl

set_option maxRecDepth 100000 in
theorem dec_ParseList (s : List UInt8) (hs : s.length ≤ 1000000) : Tri Tryd.prog 15 #[str s] [libW] [] (fun v L' => ∃ V', v = .tuple #[V', .int .i64 (Dc.parseList s).2] ∧ L' = [row V' 3 1 ((Dc.parseList s).1.map encZ)]) := by
  refine Tri.enter (args := [str s]) (body := _) 32 Tryd.func15 rfl Tryd.ntmps15 rfl ?_
  intro w0
  refine J.seq ?_
  refine J.region ?_
  refine O.p (Pu.assign rfl) rfl ?_
  refine O.p (Pu.assign rfl) rfl ?_
  refine O.nil ?_
  refine J.seq ?_
  refine J.seq ?_
  refine J.region ?_
  refine O.p (Pu.move rfl) rfl ?_
  refine O.p (Pu.sEql rfl rfl) rfl ?_
  refine O.nil ?_
  refine J.cond rfl (fun h1 => ?_) (fun h1 => ?_)
  ·
    refine J.seq ?_
    refine J.region ?_
    refine O.p (Pu.assign rfl) rfl ?_
    refine O.p (Pu.assign rfl) rfl ?_
    refine O.nil ?_
    refine J.nilRow 3 1 ?_
    exact J.ret (Fin.ret (rs := [.tmp 2, .tmp 3]) rfl [_, _] ⟨rfl, rfl, trivial⟩ [0] (by decide) [row (Value.slice none 0 0) 3 1 (([] : List Int).map encZ)] rfl ⟨Value.slice none 0 0, (by first | (rw [Dc.pl_dash (by assumption)]; done) | (rw [Dc.pl_dash (by assumption)]; rfl)), (by first | (rw [Dc.pl_dash (by assumption)]; done) | (rw [Dc.pl_dash (by assumption)]; rfl))⟩)
  ·
    refine J.skip ?_
    refine J.seq ?_
    refine J.region ?_
    refine O.p (Pu.assign rfl) rfl ?_
    refine O.nil ?_
    refine J.seq ?_
    refine J.seq ?_
    refine J.region ?_
    refine O.p (Pu.move rfl) rfl ?_
    refine O.l (Lo.call [str s, str ([44])] (by exact Tryd.call23) rfl (s_Split s (by first | omega | (have h_ := Dc.split_part s _ (List.mem_of_getElem? (by assumption)); omega) | (have h1_ := Dc.plU_len hst; have h2_ := Dc.split_len s; simp only [List.length_append, List.length_cons, List.length_nil]; omega))) [] [] (by decide) rfl _ rfl (RoOk.ro 0 rfl [] rfl RoOk.nil)) rfl ?_
    rintro v2 _ ⟨_, rfl, rfl⟩
    refine O.q (Qt.lenM Tryd.runUnderlying48 rfl (Src.row 0 rfl)) rfl ?_
    refine O.p (Pu.move rfl) rfl ?_
    refine O.nil ?_
    refine J.block ?_
    refine J.nilRow 3 1 ?_
    refine J.loop (X := Nat × Value × List Int) (fun ξ => ξ.1 ≤ (Lib.split s [44]).length ∧ Dc.plU (Lib.split s [44]) ξ.1 = some ξ.2.2) (fun ξ => [(4, ξ.2.1), (12, v2), (13, .int .i64 ((Lib.split s [44]).length : Int)), (14, .int .i64 (ξ.1 : Int))]) (fun ξ => [row v2 9 1 ((Lib.split s [44]).map encS), row ξ.2.1 3 1 (ξ.2.2.map encZ)]) (fun ξ => (Lib.split s [44]).length - ξ.1) ⟨0, Value.slice none 0 0, []⟩ (show 0 ≤ (Lib.split s [44]).length ∧ Dc.plU (Lib.split s [44]) 0 = some ([]) from ⟨by omega, rfl⟩) ⟨rfl, rfl, rfl, (congrArg (fun z => some (Value.int .i64 z)) (by first | rfl | omega : (0 : Int) = (0 : Int))), trivial⟩ [1, 0] (by decide) rfl ?_
    rintro ⟨k, V, out⟩ hq3
    obtain ⟨hk, hst⟩ : k ≤ (Lib.split s [44]).length ∧ Dc.plU (Lib.split s [44]) k = some out := hq3
    show J _ _ [(4, V), (12, v2), (13, .int .i64 ((Lib.split s [44]).length : Int)), (14, .int .i64 (k : Int))] [row v2 9 1 ((Lib.split s [44]).map encS), row V 3 1 (out.map encZ)]
    refine J.seq ?_
    refine J.region ?_
    refine O.p (Pu.lss rfl rfl) rfl ?_
    refine O.nil ?_
    refine J.seq ?_
    refine J.cond rfl (fun h4 => ?_) (fun h4 => ?_)
    ·
      have p5 := of_decide_eq_true h4
      refine J.skip ?_
      refine J.seq ?_
      refine J.block ?_
      refine J.seq ?_
      refine J.region ?_
      obtain ⟨e6, he6⟩ : ∃ x_, (Lib.split s [44])[k]? = some x_ := ⟨_, List.getElem?_eq_getElem (by first | omega | (have h_ := Dc.split_part s _ (List.mem_of_getElem? (by assumption)); omega) | (have h1_ := Dc.plU_len hst; have h2_ := Dc.split_len s; simp only [List.length_append, List.length_cons, List.length_nil]; omega))⟩
      refine O.q (Qt.idxM Tryd.runUnderlying48 Tryd.sizeOf9 rfl (Src.row 0 rfl) rfl (by first | omega | (have h_ := Dc.split_part s _ (List.mem_of_getElem? (by assumption)); omega) | (have h1_ := Dc.plU_len hst; have h2_ := Dc.split_len s; simp only [List.length_append, List.length_cons, List.length_nil]; omega)) (by first | omega | (have h_ := Dc.split_part s _ (List.mem_of_getElem? (by assumption)); omega) | (have h1_ := Dc.plU_len hst; have h2_ := Dc.split_len s; simp only [List.length_append, List.length_cons, List.length_nil]; omega))) rfl ?_
      refine O.q (Qt.ld rfl (Cel.eltM (Src.row 0 rfl) he6) (o := (voff v2 + k * 1)) (off := 0) (by omega) (Cut.one Tryd.isAgg9 rfl)) rfl ?_
      refine O.p (Pu.assign rfl) rfl ?_
      refine O.nil ?_
      refine J.seq ?_
      refine J.region ?_
      refine O.p (Pu.move rfl) rfl ?_
      refine O.l (Lo.call [str e6] (by exact Tryd.call7) rfl (dec_Parse e6 (by first | omega | (have h_ := Dc.split_part s _ (List.mem_of_getElem? (by assumption)); omega) | (have h1_ := Dc.plU_len hst; have h2_ := Dc.split_len s; simp only [List.length_append, List.length_cons, List.length_nil]; omega))) [] [0, 1] (by decide) rfl _ rfl (RoOk.ro 0 rfl [] rfl RoOk.nil)) rfl ?_
      rintro _ _ ⟨_, ⟨rfl, rfl⟩, rfl⟩
      refine O.p (Pu.move rfl) rfl ?_
      refine O.p (Pu.extract rfl rfl) rfl ?_
      refine O.p (Pu.extract rfl rfl) rfl ?_
      refine O.p (Pu.assign rfl) rfl ?_
      refine O.p (Pu.assign rfl) rfl ?_
      refine O.nil ?_
      refine J.seq ?_
      refine J.seq ?_
      refine J.region ?_
      refine O.p (Pu.move rfl) rfl ?_
      refine O.p (Pu.neq rfl rfl) rfl ?_
      refine O.nil ?_
      refine J.cond rfl (fun h8 => ?_) (fun h8 => ?_)
      ·
        have p9 := of_decide_eq_true h8
        refine J.seq ?_
        refine J.region ?_
        refine O.p (Pu.move rfl) rfl ?_
        refine O.p (Pu.assign rfl) rfl ?_
        refine O.p (Pu.assign rfl) rfl ?_
        refine O.nil ?_
        refine J.nilRow 3 1 ?_
        exact J.ret (Fin.ret (rs := [.tmp 2, .tmp 3]) rfl [_, _] ⟨rfl, rfl, trivial⟩ [0] (by decide) [row (Value.slice none 0 0) 3 1 (([] : List Int).map encZ)] rfl ⟨Value.slice none 0 0, (by first | (rw [Dc.pl_bad (by assumption) hst (by assumption) (by omega)]; done) | (rw [Dc.pl_bad (by assumption) hst (by assumption) (by omega)]; rfl)), (by first | (rw [Dc.pl_bad (by assumption) hst (by assumption) (by omega)]; done) | (rw [Dc.pl_bad (by assumption) hst (by assumption) (by omega)]; rfl))⟩)
      ·
        have p10 := of_decide_eq_false h8
        refine J.skip ?_
        refine J.region ?_
        refine O.p (Pu.move rfl) rfl ?_
        refine O.p (Pu.move rfl) rfl ?_
        refine O.l (Lo.buildM (s := 1) encZ [(Dc.parse e6).1] [(0, .int .i64 ((Dc.parse e6).1))] (by exact Tryd.runUnderlying32) (by exact Tryd.sizeOf3) (by exact Tryd.zeroValue3) rfl rfl rfl (by kernel_rfl) rfl rfl) rfl ?_
        rintro V11 _ rfl
        refine O.l (Lo.appendM (s := 1) 2 (by exact Tryd.underlying32) (by exact (info3).1) (by exact (info3).2.1) (by exact (info3).2.2.1) (by exact (info3).2.2.2) rfl rfl rfl rfl rfl (Src.row 0 rfl) encZ.one (by first | omega | (have h_ := Dc.split_part s _ (List.mem_of_getElem? (by assumption)); omega) | (have h1_ := Dc.plU_len hst; have h2_ := Dc.split_len s; simp only [List.length_append, List.length_cons, List.length_nil]; omega)) (by first | omega | (have h_ := Dc.split_part s _ (List.mem_of_getElem? (by assumption)); omega) | (have h1_ := Dc.plU_len hst; have h2_ := Dc.split_len s; simp only [List.length_append, List.length_cons, List.length_nil]; omega))) rfl ?_
        rintro V12 _ rfl
        refine O.p (Pu.assign rfl) rfl ?_
        refine O.nil ?_
        refine J.blk ?_
        refine J.region ?_
        refine O.p (Pu.add' rfl rfl (by first | omega | (have h2_ := Dc.split_len s; omega))) rfl ?_
        refine O.p (Pu.move rfl) rfl ?_
        refine O.nil ?_
        exact J.lp ⟨k + 1, V12, out ++ ([(Dc.parse e6).1])⟩ (show (k + 1) ≤ (Lib.split s [44]).length ∧ Dc.plU (Lib.split s [44]) (k + 1) = some (out ++ ([(Dc.parse e6).1])) from ⟨by omega, Dc.plU_next hst (by assumption) (by omega)⟩) (show (Lib.split s [44]).length - (k + 1) < (Lib.split s [44]).length - k from (by first | omega | (have h_ := Dc.split_part s _ (List.mem_of_getElem? (by assumption)); omega) | (have h1_ := Dc.plU_len hst; have h2_ := Dc.split_len s; simp only [List.length_append, List.length_cons, List.length_nil]; omega))) ⟨rfl, rfl, rfl, (congrArg (fun z => some (Value.int .i64 z)) (by first | rfl | omega : ((k : Int) + 1 : Int) = ((k + 1) : Int))), trivial⟩ [1, 2] (by decide) rfl
    ·
      have p13 := of_decide_eq_false h4
      refine J.exit _ rfl ?_
      refine J.seq ?_
      refine J.region ?_
      refine O.p (Pu.move rfl) rfl ?_
      refine O.p (Pu.assign rfl) rfl ?_
      refine O.p (Pu.assign rfl) rfl ?_
      refine O.nil ?_
      exact J.ret (Fin.ret (rs := [.tmp 2, .tmp 3]) rfl [_, _] ⟨rfl, rfl, trivial⟩ [1] (by decide) [row V 3 1 (out.map encZ)] rfl ⟨V, (by first | (rw [Dc.pl_all (by assumption) (by have hk_ : k = (Lib.split s [44]).length := (by omega); rw [← hk_]; exact hst)]; done) | (rw [Dc.pl_all (by assumption) (by have hk_ : k = (Lib.split s [44]).length := (by omega); rw [← hk_]; exact hst)]; rfl)), (by first | (rw [Dc.pl_all (by assumption) (by have hk_ : k = (Lib.split s [44]).length := (by omega); rw [← hk_]; exact hst)]; done) | (rw [Dc.pl_all (by assumption) (by have hk_ : k = (Lib.split s [44]).length := (by omega); rw [← hk_]; exact hst)]; rfl))⟩)

set_option maxRecDepth 100000 in
theorem dec_List_nil (lv : Value) (l : List Int) (h0 : l.length = 0) : Tri Tryd.prog 17 #[lv] [rd lv 1 (l.map encZ)] [] (fun v L' => v = str [45] ∧ L' = []) := by
  refine Tri.enter (args := [lv]) (body := _) 23 Tryd.func17 rfl Tryd.ntmps17 rfl ?_
  intro w0
  refine J.seq ?_
  refine J.region ?_
  refine O.p (Pu.assign rfl) rfl ?_
  refine O.nil ?_
  refine J.seq ?_
  refine J.seq ?_
  refine J.region ?_
  refine O.p (Pu.move rfl) rfl ?_
  refine O.q (Qt.lenM Tryd.runUnderlying32 rfl (Src.ro 0 rfl)) rfl ?_
  refine O.p (Pu.eql rfl rfl) rfl ?_
  refine O.nil ?_
  refine J.condT rfl (decide_eq_true (by omega)) ?_
  refine J.seq ?_
  refine J.region ?_
  refine O.p (Pu.assign rfl) rfl ?_
  refine O.nil ?_
  exact J.ret (Fin.ret (rs := [.tmp 2]) rfl [_] ⟨rfl, trivial⟩ [] (by decide) [] rfl ⟨rfl, rfl⟩)

set_option maxRecDepth 100000 in
theorem r01_Same (av bv : Value) (l : List Int) (hl : l.length ≤ 100000) : Tri Tryd.prog 19 #[av, bv] [rd av 1 (l.map encZ), rd bv 1 (l.map encZ)] [] (fun v L' => v = .bool true ∧ L' = []) := by
  refine Tri.enter (args := [av, bv]) (body := _) 32 Tryd.func19 rfl Tryd.ntmps19 rfl ?_
  intro w0
  refine J.seq ?_
  refine J.region ?_
  refine O.p (Pu.assign rfl) rfl ?_
  refine O.nil ?_
  refine J.seq ?_
  refine J.seq ?_
  refine J.region ?_
  refine O.p (Pu.move rfl) rfl ?_
  refine O.q (Qt.lenM Tryd.runUnderlying32 rfl (Src.ro 0 rfl)) rfl ?_
  refine O.p (Pu.move rfl) rfl ?_
  refine O.q (Qt.lenM Tryd.runUnderlying32 rfl (Src.ro 1 rfl)) rfl ?_
  refine O.p (Pu.neq rfl rfl) rfl ?_
  refine O.nil ?_
  refine J.condF rfl (by simp) ?_
  refine J.skip ?_
  refine J.seq ?_
  refine J.seq ?_
  refine J.region ?_
  refine O.p (Pu.assign rfl) rfl ?_
  refine O.nil ?_
  refine J.block ?_
  refine J.loop (X := Nat) (fun ξ => ξ ≤ l.length) (fun ξ => [(0, av), (1, bv), (5, .int .i64 (ξ : Int))]) (fun ξ => []) (fun ξ => l.length - ξ) 0 (show 0 ≤ l.length from (by omega)) ⟨rfl, rfl, (congrArg (fun z => some (Value.int .i64 z)) (by first | rfl | omega : (0 : Int) = (0 : Int))), trivial⟩ [] (by decide) rfl ?_
  rintro k hq1
  obtain hk : k ≤ l.length := hq1
  show J _ _ [(0, av), (1, bv), (5, .int .i64 (k : Int))] []
  refine J.seq ?_
  refine J.seq ?_
  refine J.region ?_
  refine O.p (Pu.move rfl) rfl ?_
  refine O.p (Pu.move rfl) rfl ?_
  refine O.q (Qt.lenM Tryd.runUnderlying32 rfl (Src.ro 0 rfl)) rfl ?_
  refine O.p (Pu.lss rfl rfl) rfl ?_
  refine O.p (Pu.move rfl) rfl ?_
  refine by_bool (decide ((k : Int) < (l.length : Int))) (fun h2 => ?_) (fun h2 => ?_)
  ·
    have p3 := of_decide_eq_true h2
    refine O.gq (t := 15) rfl rfl h2 rfl (Pu.qt (Pu.move rfl)) rfl ?_
    refine O.gq (t := 15) rfl rfl h2 rfl (Pu.qt (Pu.move rfl)) rfl ?_
    refine O.gq (t := 15) rfl rfl h2 rfl (Qt.lenM Tryd.runUnderlying32 rfl (Src.ro 1 rfl)) rfl ?_
    refine O.gq (t := 15) rfl rfl h2 rfl (Pu.qt (Pu.lss rfl rfl)) rfl ?_
    refine O.p (Pu.pickT rfl h2 rfl) rfl ?_
    refine O.nil ?_
    refine J.condT rfl h2 ?_
    refine J.skip ?_
    refine J.seq ?_
    refine J.block ?_
    refine J.seq ?_
    refine J.drawStill Tryd.mixed (by kernel_rfl) ?_
    refine S.p (Pu.move rfl) rfl ?_
    refine S.p (Pu.move rfl) rfl ?_
    obtain ⟨e4, he4⟩ : ∃ x_, l[k]? = some x_ := ⟨_, List.getElem?_eq_getElem (by first | omega | (simp only [List.length_append, List.length_cons, List.length_nil, List.length_set]; omega))⟩
    refine S.q (Qt.idxM Tryd.runUnderlying32 Tryd.sizeOf3 rfl (Src.ro 0 rfl) rfl (by first | omega | (simp only [List.length_append, List.length_cons, List.length_nil, List.length_set]; omega)) (by first | omega | (simp only [List.length_append, List.length_cons, List.length_nil, List.length_set]; omega))) rfl ?_
    refine S.q (Qt.ld rfl (Cel.eltM (Src.ro 0 rfl) he4) (o := (voff av + k * 1)) (off := 0) (by omega) (Cut.one Tryd.isAgg3 rfl)) rfl ?_
    refine S.p (Pu.move rfl) rfl ?_
    refine S.p (Pu.move rfl) rfl ?_
    refine S.q (Qt.idxM Tryd.runUnderlying32 Tryd.sizeOf3 rfl (Src.ro 1 rfl) rfl (by first | omega | (simp only [List.length_append, List.length_cons, List.length_nil, List.length_set]; omega)) (by first | omega | (simp only [List.length_append, List.length_cons, List.length_nil, List.length_set]; omega))) rfl ?_
    refine S.q (Qt.ld rfl (Cel.eltM (Src.ro 1 rfl) he4) (o := (voff bv + k * 1)) (off := 0) (by omega) (Cut.one Tryd.isAgg3 rfl)) rfl ?_
    refine S.p (Pu.neq rfl rfl) rfl ?_
    refine S.endJ ?_
    refine J.condF rfl (by simp) ?_
    refine J.skip ?_
    refine J.blk ?_
    refine J.region ?_
    refine O.p (Pu.move rfl) rfl ?_
    refine O.p (Pu.add' rfl rfl (by first | omega | (simp only [List.length_append, List.length_cons, List.length_nil, List.length_set]; omega))) rfl ?_
    refine O.p (Pu.assign rfl) rfl ?_
    refine O.nil ?_
    exact J.lp (k + 1) (show (k + 1) ≤ l.length from (by omega)) (show l.length - (k + 1) < l.length - k from (by first | omega | (simp only [List.length_append, List.length_cons, List.length_nil, List.length_set]; omega))) ⟨rfl, rfl, (congrArg (fun z => some (Value.int .i64 z)) (by first | rfl | omega : ((k : Int) + 1 : Int) = ((k + 1) : Int))), trivial⟩ [] (by decide) rfl
  ·
    have p5 := of_decide_eq_false h2
    refine O.gskip (t := 15) rfl rfl (no_bool (by rw [h2]; decide)) rfl rfl ?_
    refine O.gskip (t := 15) rfl rfl (no_bool (by rw [h2]; decide)) rfl rfl ?_
    refine O.gskip (t := 15) rfl rfl (no_bool (by rw [h2]; decide)) rfl rfl ?_
    refine O.gskip (t := 15) rfl rfl (no_bool (by rw [h2]; decide)) rfl rfl ?_
    refine O.p (Pu.pickF rfl h2 rfl) rfl ?_
    refine O.nil ?_
    refine J.condF rfl rfl ?_
    refine J.exit _ rfl ?_
    refine J.seq ?_
    refine J.region ?_
    refine O.p (Pu.assign rfl) rfl ?_
    refine O.nil ?_
    exact J.ret (Fin.ret (rs := [.tmp 4]) rfl [_] ⟨rfl, trivial⟩ [] (by decide) [] rfl ⟨rfl, rfl⟩)

end Go.Proofs.YtopemccmejgbpaaDoor
