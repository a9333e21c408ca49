/-
  Several texts in one: GX1, GX2.
-/
import Derived.KernelRfl
import Derived.Test.YtnhfgnnpbipcnaaGreatDoorCX5
import Derived.Test.YtnhfgnnpbipcnaaGreatDoorGraphA
import Derived.Test.YtnhfgnnpbipcnaaGreatDoorLkD
namespace Go.Proofs.YtnhfgnnpbipcnaaGreatDoor
open Go Go.LK Go.Proofs.Tryz
set_option linter.unusedSimpArgs false

set_option maxRecDepth 100000 in
theorem s_Index (sv : Value) (l : List Int) (x : Int) (hl : l.length ≤ 100000) : Tri prog 98 #[sv, .int .i64 x] [rd sv 1 (l.map encZ)] [] (fun v L' => ∃ k, v = .int .i64 k ∧ Jb.IdxP l x k ∧ L' = []) := by
 refine Tri.enter (args := [sv, .int .i64 x]) (body := _) 19 func98 rfl ntmps98 rfl ?_
 intro w0
 refine J.seq <| J.region <| O.a rfl rfl <| O.nil <| J.seq <| J.seq <| J.region <| O.m rfl rfl <| O.q (Qt.lenM runUnderlying53 rfl (Src.ro 0 rfl)) rfl <| O.m rfl rfl <| O.nil <| J.block ?_
 refine J.loop (X := Nat) (fun ξ => ξ ≤ l.length ∧ ∀ j, j < ξ → ∀ y, l[j]? = some y → y ≠ x) (fun ξ => [(0, sv), (1, .int .i64 x), (7, .int .i64 (l.length : Int)), (8, .int .i64 (ξ : Int))]) (fun ξ => []) (fun ξ => l.length - ξ) 0 (show 0 ≤ l.length ∧ ∀ j, j < 0 → ∀ y, l[j]? = some y → y ≠ x from ⟨by omega, fun j hj => absurd hj (Nat.not_lt_zero _)⟩) ⟨rfl, rfl, rfl, (congrArg (fun z => some (Value.int .i64 z)) (by first | rfl | omega : (0 : Int) = (0 : Int))), trivial⟩ [] (by decide) rfl ?_
 rintro k hq1
 obtain ⟨hk, hno⟩ : k ≤ l.length ∧ ∀ j, j < k → ∀ y, l[j]? = some y → y ≠ x := hq1
 show J _ _ [(0, sv), (1, .int .i64 x), (7, .int .i64 (l.length : Int)), (8, .int .i64 (k : Int))] []
 refine J.seq <| J.region <| O.p (Pu.lss rfl rfl) rfl <| O.nil <| J.seq ?_
 refine J.cond rfl (fun h2 => ?_) (fun h2 => ?_)
 ·
  have p3 := of_decide_eq_true h2
  refine J.skip <| J.seq <| J.block <| J.seq <| J.region <| O.m rfl rfl <| O.a rfl rfl <| O.nil <| J.seq <| J.region <| O.m rfl rfl <| O.m rfl rfl ?_
  refine O.m rfl rfl ?_
  obtain ⟨e4, he4⟩ : ∃ x_, l[k]? = some x_ := ⟨_, List.getElem?_eq_getElem (by omega)⟩
  refine O.q (Qt.idxM runUnderlying53 sizeOf3 rfl (Src.ro 0 rfl) rfl (by omega) (by omega)) rfl <| O.q (Qt.ld rfl (Cel.eltM (Src.ro 0 rfl) he4) (o := (voff sv + k * 1)) (off := 0) (by omega) (Cut.one isAgg3 rfl)) rfl <| O.p (Pu.eql rfl rfl) rfl <| O.nil ?_
  refine J.cond rfl (fun h5 => ?_) (fun h5 => ?_)
  ·
   have p6 := of_decide_eq_true h5
   refine J.seq <| J.region <| O.m rfl rfl <| O.a rfl rfl <| O.nil ?_
   exact J.ret (Fin.ret (rs := [.tmp 4]) rfl [_] ⟨rfl, trivial⟩ [] (by decide) [] rfl ⟨_, rfl, Jb.idx_yes hno he4 (by omega), rfl⟩)
  ·
   have p7 := of_decide_eq_false h5
   refine J.skip <| J.blk <| J.region <| O.p (Pu.add' rfl rfl (by first | omega | (simp only [List.length_append, List.length_cons, List.length_nil, List.length_set]; omega))) rfl <| O.m rfl rfl <| O.nil ?_
   exact J.lp (k + 1) (show (k + 1) ≤ l.length ∧ ∀ j, j < (k + 1) → ∀ y, l[j]? = some y → y ≠ x from ⟨by omega, Jb.idx_next hno he4 (by omega)⟩) (show l.length - (k + 1) < l.length - k from (by omega)) ⟨rfl, rfl, rfl, (congrArg (fun z => some (Value.int .i64 z)) (by first | rfl | omega : ((k : Int) + 1 : Int) = ((k + 1) : Int))), trivial⟩ [] (by decide) rfl
 ·
  have p8 := of_decide_eq_false h2
  refine J.exit _ rfl <| J.seq <| J.region <| O.a rfl rfl <| O.nil ?_
  exact J.ret (Fin.ret (rs := [.tmp 4]) rfl [_] ⟨rfl, trivial⟩ [] (by decide) [] rfl ⟨_, rfl, Jb.idx_no hno (by omega), rfl⟩)

set_option maxRecDepth 100000 in
theorem s_Contains (sv : Value) (l : List Int) (x : Int) (hl : l.length ≤ 100000) : Tri prog 118 #[sv, .int .i64 x] [rd sv 1 (l.map encZ)] [] (fun v L' => v = .bool (decide (x ∈ l)) ∧ L' = []) := by
 refine Tri.enter (args := [sv, .int .i64 x]) (body := _) 9 func118 rfl ntmps118 rfl ?_
 intro w0
 refine J.seq <| J.region <| O.a rfl rfl <| O.nil <| J.seq <| J.region <| O.m rfl rfl <| O.m rfl rfl <| O.l (Lo.call [sv, .int .i64 x] (by exact call98) rfl (s_Index sv l x (by omega)) [] [] (by decide) rfl [] rfl (RoOk.ro 0 rfl [] rfl RoOk.nil)) rfl ?_
 rintro _ _ ⟨_, ⟨k1, rfl, hx2, rfl⟩, rfl⟩
 refine O.p (Pu.geq rfl rfl) rfl <| O.a rfl rfl <| O.nil ?_
 exact J.ret (Fin.ret (rs := [.tmp 4]) rfl [_] ⟨rfl, trivial⟩ [] (by decide) [] rfl ⟨(by simp only [vOf]; congr 1; rw [decide_eq_decide]; exact Jb.idx_mem hx2), rfl⟩)

set_option maxRecDepth 100000 in
theorem g_called (lv : Value) (l : List Sg) (f : Int) (hl : l.length ≤ 1000) (hc : ∀ s ∈ l, s.cl.length ≤ 1000) : Tri prog 99 #[lv, .int .i64 f] [rd lv 14 (l.map Sg.cells), ros (l.map Sg.rd)] [] (fun v L' => L' = [row v 3 1 ((Gr.called (gOf l) f).map encZ)]) := by
 have hgl := gOf_len (l := l)
 refine Tri.enter (args := [lv, .int .i64 f]) (body := _) 51 func99 rfl ntmps99 rfl ?_
 intro w0
 refine J.seq <| J.region <| O.a rfl rfl <| O.nil <| J.seq <| J.region <| O.a rfl rfl <| O.nil <| J.seq <| J.seq <| J.region <| O.m rfl rfl ?_
 refine O.p (Pu.lss rfl rfl) rfl <| O.m rfl rfl ?_
 refine by_bool (decide (f < 0)) (fun h1 => ?_) (fun h1 => ?_)
 ·
  have p2 := of_decide_eq_true h1
  refine O.gskip (t := 10) rfl rfl (no_bool (by rw [h1]; decide)) rfl rfl <| O.gskip (t := 10) rfl rfl (no_bool (by rw [h1]; decide)) rfl rfl <| O.gskip (t := 10) rfl rfl (no_bool (by rw [h1]; decide)) rfl rfl <| O.gskip (t := 10) rfl rfl (no_bool (by rw [h1]; decide)) rfl rfl <| O.p (Pu.pickT rfl h1 rfl) rfl <| O.nil <| J.condT rfl rfl <| J.seq <| J.region <| O.m rfl rfl <| O.a rfl rfl <| O.nil ?_
  refine J.nilRow 3 1 ?_
  show J _ _ _ [row (Value.slice none 0 0) 3 1 (([] : List Int).map encZ)]
  exact J.ret (Fin.ret (rs := [.tmp 4]) rfl [_] ⟨rfl, trivial⟩ [0] (by decide) [row (Value.slice none 0 0) 3 1 (([] : List Int).map encZ)] rfl (congrArg (fun (z : List Int) => ([row (Value.slice none 0 0) 3 1 (z.map encZ)] : List Sp)) (show ([] : List Int) = Gr.called (gOf l) f from (Gr.called_out (by omega)).symm)))
 ·
  have p3 := of_decide_eq_false h1
  refine O.gq (t := 10) rfl rfl h1 rfl (Pu.qt (Pu.move rfl)) rfl <| O.gq (t := 10) rfl rfl h1 rfl (Pu.qt (Pu.move rfl)) rfl <| O.gq (t := 10) rfl rfl h1 rfl (Qt.lenM runUnderlying23 rfl (Src.ro 0 rfl)) rfl <| O.gq (t := 10) rfl rfl h1 rfl (Pu.qt (Pu.geq rfl rfl)) rfl <| O.p (Pu.pickF rfl h1 rfl) rfl <| O.nil ?_
  refine J.cond rfl (fun h4 => ?_) (fun h4 => ?_)
  ·
   have p5 := of_decide_eq_true h4
   refine J.seq <| J.region <| O.m rfl rfl <| O.a rfl rfl <| O.nil <| J.nilRow 3 1 ?_
   show J _ _ _ [row (Value.slice none 0 0) 3 1 (([] : List Int).map encZ)]
   exact J.ret (Fin.ret (rs := [.tmp 4]) rfl [_] ⟨rfl, trivial⟩ [0] (by decide) [row (Value.slice none 0 0) 3 1 (([] : List Int).map encZ)] rfl (congrArg (fun (z : List Int) => ([row (Value.slice none 0 0) 3 1 (z.map encZ)] : List Sp)) (show ([] : List Int) = Gr.called (gOf l) f from (Gr.called_out (by omega)).symm)))
  ·
   have p6 := of_decide_eq_false h4
   refine J.skip <| J.seq <| J.seq ?_
   obtain ⟨e7, he7⟩ : ∃ x_, l[(f).toNat]? = some x_ := ⟨_, List.getElem?_eq_getElem (by first | omega | (simp only [List.length_append, List.length_cons, List.length_nil]; omega))⟩
   refine J.ros 1 rfl (A := rd e7.cv 4 (e7.cl.map Cl.cells)) (List.mem_map.2 ⟨e7, List.mem_of_getElem? he7, rfl⟩) ?_
   have hcl := hc _ (List.mem_of_getElem? he7)
   have hcm : (e7.cl.map Cl.to).length = e7.cl.length := List.length_map _
   refine J.region <| O.m rfl rfl <| O.m rfl rfl <| O.q (Qt.idxM runUnderlying23 sizeOf47 rfl (Src.ro 0 rfl) rfl (by first | omega | (simp only [List.length_append, List.length_cons, List.length_nil]; omega)) (by first | omega | (simp only [List.length_append, List.length_cons, List.length_nil]; omega))) rfl <| O.p (Pu.fieldAddr (off' := voff lv + (f).toNat * 14 + 13) runUnderlying47 rfl sizeOf45 rfl rfl rfl) rfl <| O.q (Qt.ld rfl (Cel.eltM (Src.ro 0 rfl) he7) (o := (voff lv + ((f).toNat) * 14)) (off := 13) (by omega) (Cut.one isAgg45 rfl)) rfl <| O.q (Qt.lenM runUnderlying45 rfl (Src.ro 2 rfl)) rfl <| O.m rfl rfl <| O.nil <| J.block <| J.nilRow 3 1 <| J.loop (X := Nat × Value × List Int) (fun ξ => ξ.1 ≤ e7.cl.length ∧ ξ.2.2 = Gr.calledK l.length (e7.cl.map Cl.to) ξ.1 ∧ ξ.2.2.length ≤ ξ.1) (fun ξ => [(0, lv), (4, Value.slice none 0 0), (5, ξ.2.1), (21, e7.cv), (22, .int .i64 (e7.cl.length : Int)), (23, .int .i64 (ξ.1 : Int))]) (fun ξ => [row ξ.2.1 3 1 (ξ.2.2.map encZ)]) (fun ξ => e7.cl.length - ξ.1) ⟨0, Value.slice none 0 0, []⟩ (show 0 ≤ e7.cl.length ∧ ([]) = Gr.calledK l.length (e7.cl.map Cl.to) 0 ∧ ([]).length ≤ 0 from ⟨by omega, rfl, by simp⟩) ⟨rfl, rfl, rfl, rfl, rfl, (congrArg (fun z => some (Value.int .i64 z)) (by first | rfl | omega : (0 : Int) = (0 : Int))), trivial⟩ [0] (by decide) rfl ?_
   rintro ⟨k, V, o⟩ hq8
   obtain ⟨hk, hst, hlen⟩ : k ≤ e7.cl.length ∧ o = Gr.calledK l.length (e7.cl.map Cl.to) k ∧ o.length ≤ k := hq8
   show J _ _ [(0, lv), (4, Value.slice none 0 0), (5, V), (21, e7.cv), (22, .int .i64 (e7.cl.length : Int)), (23, .int .i64 (k : Int))] [row V 3 1 (o.map encZ)]
   refine J.seq <| J.region <| O.p (Pu.lss rfl rfl) rfl <| O.nil <| J.seq ?_
   refine J.cond rfl (fun h9 => ?_) (fun h9 => ?_)
   ·
    have p10 := of_decide_eq_true h9
    refine J.skip <| J.seq <| J.block <| J.seq <| J.region ?_
    obtain ⟨e11, he11⟩ : ∃ x_, e7.cl[k]? = some x_ := ⟨_, List.getElem?_eq_getElem (by first | omega | (simp only [List.length_append, List.length_cons, List.length_nil]; omega))⟩
    refine O.q (Qt.idxM runUnderlying45 sizeOf50 rfl (Src.ro 2 rfl) rfl (by first | omega | (simp only [List.length_append, List.length_cons, List.length_nil]; omega)) (by first | omega | (simp only [List.length_append, List.length_cons, List.length_nil]; omega))) rfl <| O.q (Qt.ld rfl (Cel.eltM (Src.ro 2 rfl) he11) (o := (voff e7.cv + k * 4)) (off := 0) (by omega) (Cut.agg [.int .i64 e11.to, .int .i64 e11.tier, .int .i64 e11.weight, .int .i64 e11.most] isAgg50 sizeOf50 rfl rfl)) rfl <| O.l (Lo.alloc [.int .i64 0, .int .i64 0, .int .i64 0, .int .i64 0] (by exact zeroValue50) rfl) rfl ?_
    rintro _ _ ⟨g12, rfl, rfl⟩
    refine O.l0 (Lo.store 0 (vs := [.int .i64 e11.to, .int .i64 e11.tier, .int .i64 e11.weight, .int .i64 e11.most]) [.int .i64 e11.to, .int .i64 e11.tier, .int .i64 e11.weight, .int .i64 e11.most] rfl rfl rfl (by exact sizeOf50) rfl rfl rfl rfl rfl) ?_
    rintro _ _ rfl
    refine O.nil <| J.seq <| J.region <| O.p (Pu.fieldAddr (off' := 0) runUnderlying50 rfl sizeOf3 rfl rfl rfl) rfl <| O.q (Qt.ld rfl (Cel.var 0 rfl) (o := 0) (off := 0) rfl (Cut.one isAgg3 rfl)) rfl <| O.p (Pu.geq rfl rfl) rfl <| O.m rfl rfl ?_
    refine by_bool (decide (0 ≤ e11.to)) (fun h13 => ?_) (fun h13 => ?_)
    ·
     have p14 := of_decide_eq_true h13
     refine O.gq (t := 30) rfl rfl h13 rfl (Pu.qt (Pu.fieldAddr (off' := 0) runUnderlying50 rfl sizeOf3 rfl rfl rfl)) rfl <| O.gq (t := 30) rfl rfl h13 rfl (Qt.ld rfl (Cel.var 0 rfl) (o := 0) (off := 0) rfl (Cut.one isAgg3 rfl)) rfl <| O.gq (t := 30) rfl rfl h13 rfl (Pu.qt (Pu.move rfl)) rfl <| O.gq (t := 30) rfl rfl h13 rfl (Qt.lenM runUnderlying23 rfl (Src.ro 0 rfl)) rfl <| O.gq (t := 30) rfl rfl h13 rfl (Pu.qt (Pu.lss rfl rfl)) rfl <| O.p (Pu.pickT rfl h13 rfl) rfl <| O.m rfl rfl ?_
     refine by_bool (decide (e11.to < (l.length : Int))) (fun h15 => ?_) (fun h15 => ?_)
     ·
      have p16 := of_decide_eq_true h15
      refine O.gq (t := 37) rfl rfl h15 rfl (Pu.qt (Pu.move rfl)) rfl <| O.gq (t := 37) rfl rfl h15 rfl (Pu.qt (Pu.fieldAddr (off' := 0) runUnderlying50 rfl sizeOf3 rfl rfl rfl)) rfl <| O.gq (t := 37) rfl rfl h15 rfl (Qt.ld rfl (Cel.var 0 rfl) (o := 0) (off := 0) rfl (Cut.one isAgg3 rfl)) rfl <| O.gl (t := 37) rfl rfl h15 rfl (Lo.call [V, .int .i64 e11.to] (by exact call118) rfl (s_Contains V o e11.to (by omega)) [] [0, 1] (by decide) rfl [var g12 [.int .i64 e11.to, .int .i64 e11.tier, .int .i64 e11.weight, .int .i64 e11.most] 50, row V 3 1 (o.map encZ)] rfl (RoOk.of 1 rfl row_rd [] (by decide) rfl RoOk.nil)) rfl ?_
      rintro _ _ ⟨_, ⟨rfl, rfl⟩, rfl⟩
      refine O.gq (t := 37) rfl rfl h15 rfl (Pu.qt (Pu.not rfl)) rfl <| O.p (Pu.pickT rfl h15 rfl) rfl <| O.nil ?_
      refine J.cond rfl (fun h18 => ?_) (fun h18 => ?_)
      ·
       have h19 : (decide (e11.to ∈ o)) = false := not_flip h18
       have p20 := of_decide_eq_false h19
       refine J.region <| O.m rfl rfl <| O.p (Pu.fieldAddr (off' := 0) runUnderlying50 rfl sizeOf3 rfl rfl rfl) rfl <| O.q (Qt.ld rfl (Cel.var 0 rfl) (o := 0) (off := 0) rfl (Cut.one isAgg3 rfl)) rfl <| O.l (Lo.buildM (s := 1) encZ [e11.to] [(0, .int .i64 e11.to)] (by exact runUnderlying53) (by exact sizeOf3) (by exact zeroValue3) rfl rfl rfl (by kernel_rfl) rfl rfl) rfl ?_
       rintro V21 _ rfl
       refine O.l (Lo.appendM (s := 1) 2 (by exact underlying53) (by exact (info3).1) (by exact (info3).2.1) (by exact (info3).2.2.1) (by exact (info3).2.2.2) rfl rfl rfl rfl rfl (Src.row 0 rfl) encZ.one (by first | omega | (simp only [List.length_append, List.length_cons, List.length_nil]; omega)) (by first | omega | (simp only [List.length_append, List.length_cons, List.length_nil]; omega))) rfl ?_
       rintro V22 _ rfl
       refine O.a rfl rfl <| O.nil <| J.blk <| J.region <| O.p (Pu.add' rfl rfl (by first | omega | (simp only [List.length_append, List.length_cons, List.length_nil, List.length_set]; omega))) rfl <| O.m rfl rfl <| O.nil ?_
       exact J.lp ⟨k + 1, V22, o ++ ([e11.to])⟩ (show (k + 1) ≤ e7.cl.length ∧ (o ++ ([e11.to])) = Gr.calledK l.length (e7.cl.map Cl.to) (k + 1) ∧ (o ++ ([e11.to])).length ≤ (k + 1) from ⟨by omega, (by rw [hst]; first | exact (Gr.calledK_yes (to_at he11) (by omega) (by omega) (by rw [← hst]; assumption)).symm | exact (Gr.calledK_no (to_at he11) (fun h_ => by first | (have := h_.1; omega) | (have := h_.2.1; omega) | (rw [← hst] at h_; exact h_.2.2 ‹_›))).symm), (by first | omega | (simp only [List.length_append, List.length_cons, List.length_nil]; omega))⟩) (show e7.cl.length - (k + 1) < e7.cl.length - k from (by first | omega | (simp only [List.length_append, List.length_cons, List.length_nil]; omega))) ⟨rfl, rfl, rfl, rfl, rfl, (congrArg (fun z => some (Value.int .i64 z)) (by first | rfl | omega : ((k : Int) + 1 : Int) = ((k + 1) : Int))), trivial⟩ [2] (by decide) rfl
      ·
       have h23 : (decide (e11.to ∈ o)) = true := not_flip h18
       have p24 := of_decide_eq_true h23
       refine J.skip <| J.blk <| J.region <| O.p (Pu.add' rfl rfl (by first | omega | (simp only [List.length_append, List.length_cons, List.length_nil, List.length_set]; omega))) rfl <| O.m rfl rfl <| O.nil ?_
       exact J.lp ⟨k + 1, V, o⟩ (show (k + 1) ≤ e7.cl.length ∧ o = Gr.calledK l.length (e7.cl.map Cl.to) (k + 1) ∧ o.length ≤ (k + 1) from ⟨by omega, (by rw [hst]; first | exact (Gr.calledK_yes (to_at he11) (by omega) (by omega) (by rw [← hst]; assumption)).symm | exact (Gr.calledK_no (to_at he11) (fun h_ => by first | (have := h_.1; omega) | (have := h_.2.1; omega) | (rw [← hst] at h_; exact h_.2.2 ‹_›))).symm), (by first | omega | (simp only [List.length_append, List.length_cons, List.length_nil]; omega))⟩) (show e7.cl.length - (k + 1) < e7.cl.length - k from (by first | omega | (simp only [List.length_append, List.length_cons, List.length_nil]; omega))) ⟨rfl, rfl, rfl, rfl, rfl, (congrArg (fun z => some (Value.int .i64 z)) (by first | rfl | omega : ((k : Int) + 1 : Int) = ((k + 1) : Int))), trivial⟩ [1] (by decide) rfl
     ·
      have p25 := of_decide_eq_false h15
      refine O.gskip (t := 37) rfl rfl (no_bool (by rw [h15]; decide)) rfl rfl <| O.gskip (t := 37) rfl rfl (no_bool (by rw [h15]; decide)) rfl rfl <| O.gskip (t := 37) rfl rfl (no_bool (by rw [h15]; decide)) rfl rfl <| O.gskip (t := 37) rfl rfl (no_bool (by rw [h15]; decide)) rfl rfl <| O.gskip (t := 37) rfl rfl (no_bool (by rw [h15]; decide)) rfl rfl <| O.p (Pu.pickF rfl h15 rfl) rfl <| O.nil <| J.condF rfl rfl <| J.skip <| J.blk <| J.region <| O.p (Pu.add' rfl rfl (by first | omega | (simp only [List.length_append, List.length_cons, List.length_nil, List.length_set]; omega))) rfl ?_
      refine O.m rfl rfl <| O.nil ?_
      exact J.lp ⟨k + 1, V, o⟩ (show (k + 1) ≤ e7.cl.length ∧ o = Gr.calledK l.length (e7.cl.map Cl.to) (k + 1) ∧ o.length ≤ (k + 1) from ⟨by omega, (by rw [hst]; first | exact (Gr.calledK_yes (to_at he11) (by omega) (by omega) (by rw [← hst]; assumption)).symm | exact (Gr.calledK_no (to_at he11) (fun h_ => by first | (have := h_.1; omega) | (have := h_.2.1; omega) | (rw [← hst] at h_; exact h_.2.2 ‹_›))).symm), (by first | omega | (simp only [List.length_append, List.length_cons, List.length_nil]; omega))⟩) (show e7.cl.length - (k + 1) < e7.cl.length - k from (by first | omega | (simp only [List.length_append, List.length_cons, List.length_nil]; omega))) ⟨rfl, rfl, rfl, rfl, rfl, (congrArg (fun z => some (Value.int .i64 z)) (by first | rfl | omega : ((k : Int) + 1 : Int) = ((k + 1) : Int))), trivial⟩ [1] (by decide) rfl
    ·
     have p26 := of_decide_eq_false h13
     refine O.gskip (t := 30) rfl rfl (no_bool (by rw [h13]; decide)) rfl rfl <| O.gskip (t := 30) rfl rfl (no_bool (by rw [h13]; decide)) rfl rfl <| O.gskip (t := 30) rfl rfl (no_bool (by rw [h13]; decide)) rfl rfl <| O.gskip (t := 30) rfl rfl (no_bool (by rw [h13]; decide)) rfl rfl <| O.gskip (t := 30) rfl rfl (no_bool (by rw [h13]; decide)) rfl rfl <| O.p (Pu.pickF rfl h13 rfl) rfl <| O.m rfl rfl <| O.gskip (t := 37) rfl rfl (no_bool (by decide)) rfl rfl <| O.gskip (t := 37) rfl rfl (no_bool (by decide)) rfl rfl <| O.gskip (t := 37) rfl rfl (no_bool (by decide)) rfl rfl <| O.gskip (t := 37) rfl rfl (no_bool (by decide)) rfl rfl <| O.gskip (t := 37) rfl rfl (no_bool (by decide)) rfl rfl ?_
     refine O.p (Pu.pickF rfl rfl rfl) rfl <| O.nil <| J.condF rfl rfl <| J.skip <| J.blk <| J.region <| O.p (Pu.add' rfl rfl (by first | omega | (simp only [List.length_append, List.length_cons, List.length_nil, List.length_set]; omega))) rfl <| O.m rfl rfl <| O.nil ?_
     exact J.lp ⟨k + 1, V, o⟩ (show (k + 1) ≤ e7.cl.length ∧ o = Gr.calledK l.length (e7.cl.map Cl.to) (k + 1) ∧ o.length ≤ (k + 1) from ⟨by omega, (by rw [hst]; first | exact (Gr.calledK_yes (to_at he11) (by omega) (by omega) (by rw [← hst]; assumption)).symm | exact (Gr.calledK_no (to_at he11) (fun h_ => by first | (have := h_.1; omega) | (have := h_.2.1; omega) | (rw [← hst] at h_; exact h_.2.2 ‹_›))).symm), (by first | omega | (simp only [List.length_append, List.length_cons, List.length_nil]; omega))⟩) (show e7.cl.length - (k + 1) < e7.cl.length - k from (by first | omega | (simp only [List.length_append, List.length_cons, List.length_nil]; omega))) ⟨rfl, rfl, rfl, rfl, rfl, (congrArg (fun z => some (Value.int .i64 z)) (by first | rfl | omega : ((k : Int) + 1 : Int) = ((k + 1) : Int))), trivial⟩ [1] (by decide) rfl
   ·
    have p27 := of_decide_eq_false h9
    refine J.exit _ rfl <| J.seq <| J.region <| O.m rfl rfl <| O.a rfl rfl <| O.nil ?_
    exact J.ret (Fin.ret (rs := [.tmp 4]) rfl [_] ⟨rfl, trivial⟩ [0] (by decide) [row V 3 1 (o.map encZ)] rfl (congrArg (fun (z : List Int) => ([row V 3 1 (z.map encZ)] : List Sp)) (show o = Gr.called (gOf l) f from (by rw [hst]; have h_ := Gr.called_in (g := (gOf l)) (k := k) (cl := (e7.cl.map Cl.to)) (f := f) (by omega) (by omega) (gOf_at he7) (by omega); rw [hgl] at h_; exact h_))))

set_option maxRecDepth 100000 in
theorem g_waits (lv : Value) (l : List Sg) (hl : l.length ≤ 1000) (hc : ∀ s ∈ l, s.cl.length ≤ 1000) : Tri prog 97 #[lv] [rd lv 14 (l.map Sg.cells), ros (l.map Sg.rd)] [] (fun v L' => L' = [row v 3 1 ((Gr.leftL (gOf l) []).map encZ)]) := by
 have hgl := gOf_len (l := l)
 refine Tri.enter (args := [lv]) (body := _) 32 func97 rfl ntmps97 rfl ?_
 intro w0
 refine J.seq <| J.region <| O.a rfl rfl <| O.nil <| J.seq <| J.region <| O.m rfl rfl <| O.q (Qt.lenM runUnderlying23 rfl (Src.ro 0 rfl)) rfl <| O.l (Lo.makeSliceN (z := (0 : Int)) (f := encZ) (m := l.length) (s := 1) (bytes := 8) (by exact runUnderlying53) (fun w => run_typeInfo w (by exact (info3).1)) (by exact (info3).2.2.2) (by exact sizeOf3) (by exact zeroValue3) rfl rfl (by omega) (by omega) (by decide) rfl rfl (by decide) rfl) rfl ?_
 rintro V1 _ rfl
 refine O.a rfl rfl <| O.nil <| J.seq <| J.seq <| J.region <| O.m rfl rfl <| O.q (Qt.lenM runUnderlying23 rfl (Src.ro 0 rfl)) rfl <| O.m rfl rfl <| O.nil <| J.block <| J.loop (X := Nat × List Int) (fun ξ => ξ.1 ≤ l.length ∧ ξ.2 = Gr.waitQ (gOf l) ξ.1 0) (fun ξ => [(0, lv), (2, Value.slice none 0 0), (3, V1), (11, .int .i64 (l.length : Int)), (12, .int .i64 (ξ.1 : Int))]) (fun ξ => [row V1 3 1 (ξ.2.map encZ)]) (fun ξ => l.length - ξ.1) ⟨0, List.replicate l.length (0 : Int)⟩ (show 0 ≤ l.length ∧ (List.replicate l.length (0 : Int)) = Gr.waitQ (gOf l) 0 0 from ⟨by omega, by rw [← hgl]; exact Gr.waitQ_zero⟩) ⟨rfl, rfl, rfl, rfl, (congrArg (fun z => some (Value.int .i64 z)) (by first | rfl | omega : (0 : Int) = (0 : Int))), trivial⟩ [0] (by decide) rfl ?_
 rintro ⟨k, w⟩ hq2
 obtain ⟨hk, hw⟩ : k ≤ l.length ∧ w = Gr.waitQ (gOf l) k 0 := hq2
 show J _ _ [(0, lv), (2, Value.slice none 0 0), (3, V1), (11, .int .i64 (l.length : Int)), (12, .int .i64 (k : Int))] [row V1 3 1 (w.map encZ)]
 refine J.seq <| J.region <| O.p (Pu.lss rfl rfl) rfl <| O.nil <| J.seq ?_
 refine J.cond rfl (fun h3 => ?_) (fun h3 => ?_)
 ·
  have p4 := of_decide_eq_true h3
  refine J.skip <| J.seq <| J.block <| J.seq <| J.region <| O.m rfl rfl <| O.a rfl rfl <| O.nil <| J.seq <| J.region <| O.m rfl rfl <| O.m rfl rfl ?_
  refine O.l (Lo.call [lv, .int .i64 (k : Int)] (by exact call99) rfl (g_called lv l (k : Int) hl hc) [] [0] (by decide) rfl [row V1 3 1 (w.map encZ)] rfl (RoOk.ro 0 rfl [] rfl (RoOk.ro 1 rfl [] rfl RoOk.nil))) rfl ?_
  rintro v5 _ ⟨_, rfl, rfl⟩
  refine O.q (Qt.lenM runUnderlying53 rfl (Src.row 0 rfl)) rfl <| O.m rfl rfl <| O.nil <| J.block <| J.loop (X := Nat × List Int) (fun ξ => ξ.1 ≤ (Gr.called (gOf l) (k : Int)).length ∧ ξ.2 = Gr.waitQ (gOf l) k ξ.1) (fun ξ => [(0, lv), (2, Value.slice none 0 0), (3, V1), (11, .int .i64 (l.length : Int)), (12, .int .i64 (k : Int)), (17, v5), (18, .int .i64 ((Gr.called (gOf l) (k : Int)).length : Int)), (19, .int .i64 (ξ.1 : Int))]) (fun ξ => [row V1 3 1 (ξ.2.map encZ), row v5 3 1 ((Gr.called (gOf l) (k : Int)).map encZ)]) (fun ξ => (Gr.called (gOf l) (k : Int)).length - ξ.1) ⟨0, w⟩ (show 0 ≤ (Gr.called (gOf l) (k : Int)).length ∧ w = Gr.waitQ (gOf l) k 0 from ⟨by omega, hw⟩) ⟨rfl, rfl, rfl, rfl, rfl, rfl, rfl, (congrArg (fun z => some (Value.int .i64 z)) (by first | rfl | omega : (0 : Int) = (0 : Int))), trivial⟩ [1, 0] (by decide) rfl ?_
  rintro ⟨q, w2⟩ hq6
  obtain ⟨hq, hw2⟩ : q ≤ (Gr.called (gOf l) (k : Int)).length ∧ w2 = Gr.waitQ (gOf l) k q := hq6
  show J _ _ [(0, lv), (2, Value.slice none 0 0), (3, V1), (11, .int .i64 (l.length : Int)), (12, .int .i64 (k : Int)), (17, v5), (18, .int .i64 ((Gr.called (gOf l) (k : Int)).length : Int)), (19, .int .i64 (q : Int))] [row V1 3 1 (w2.map encZ), row v5 3 1 ((Gr.called (gOf l) (k : Int)).map encZ)]
  refine J.seq <| J.region <| O.p (Pu.lss rfl rfl) rfl <| O.nil <| J.seq ?_
  refine J.cond rfl (fun h7 => ?_) (fun h7 => ?_)
  ·
   have p8 := of_decide_eq_true h7
   refine J.skip <| J.seq <| J.block <| J.seq <| J.region ?_
   obtain ⟨e9, he9⟩ : ∃ x_, (Gr.called (gOf l) (k : Int))[q]? = some x_ := ⟨_, List.getElem?_eq_getElem (by omega)⟩
   refine O.q (Qt.idxM runUnderlying53 sizeOf3 rfl (Src.row 1 rfl) rfl (by omega) (by omega)) rfl <| O.q (Qt.ld rfl (Cel.eltM (Src.row 1 rfl) he9) (o := (voff v5 + q * 1)) (off := 0) (by omega) (Cut.one isAgg3 rfl)) rfl <| O.a rfl rfl <| O.nil ?_
   obtain ⟨jt, hjt, hjl⟩ := Gr.called_bnd he9
   have hwl : w2.length = l.length := by rw [hw2, Gr.waitQ_len, hgl]
   obtain ⟨e10, he10⟩ : ∃ x_, w2[(e9).toNat]? = some x_ := ⟨_, List.getElem?_eq_getElem (by omega)⟩
   refine J.region <| O.m rfl rfl <| O.m rfl rfl <| O.q (Qt.idxM runUnderlying53 sizeOf3 rfl (Src.row 0 rfl) rfl (by omega) (by omega)) rfl <| O.q (Qt.ld rfl (Cel.eltM (Src.row 0 rfl) he10) (o := (voff V1 + ((e9).toNat) * 1)) (off := 0) (by omega) (Cut.one isAgg3 rfl)) rfl <| O.p (Pu.add' rfl rfl (by first | omega | (have h_ := Gr.waitQ_bnd (g := (gOf l)) (i := k) (q := q) (by rw [← hw2]; assumption); omega) | (have h_ := Gr.called_len (g := (gOf l)) (f := (k : Int)); omega))) rfl <| O.q (Qt.idxM runUnderlying53 sizeOf3 rfl (Src.row 0 rfl) rfl (by omega) (by omega)) rfl <| O.l0 (Lo.storeM 0 (j := (e9).toNat) (off := 0) (vs := [.int .i64 (e10 + 1)]) (e := [.int .i64 e10]) (e10 + 1) rfl rfl rfl rfl (by omega) he10 rfl (by exact sizeOf3) rfl rfl rfl rfl rfl) ?_
   rintro _ _ rfl
   refine O.nil <| J.blk <| J.region <| O.p (Pu.add' rfl rfl (by first | omega | (have h_ := Gr.waitQ_bnd (g := (gOf l)) (i := k) (q := q) (by rw [← hw2]; assumption); omega) | (have h_ := Gr.called_len (g := (gOf l)) (f := (k : Int)); omega))) rfl <| O.m rfl rfl <| O.nil ?_
   exact J.lp ⟨q + 1, w2.set (e9).toNat (e10 + 1)⟩ (show (q + 1) ≤ (Gr.called (gOf l) (k : Int)).length ∧ (w2.set (e9).toNat (e10 + 1)) = Gr.waitQ (gOf l) k (q + 1) from ⟨by omega, (by rw [hw2]; exact Gr.waitQ_next he9 (by rw [← hw2]; exact he10))⟩) (show (Gr.called (gOf l) (k : Int)).length - (q + 1) < (Gr.called (gOf l) (k : Int)).length - q from (by omega)) ⟨rfl, rfl, rfl, rfl, rfl, rfl, rfl, (congrArg (fun z => some (Value.int .i64 z)) (by first | rfl | omega : ((q : Int) + 1 : Int) = ((q + 1) : Int))), trivial⟩ [0, 1] (by decide) rfl
  ·
   have p12 := of_decide_eq_false h7
   refine J.exit _ rfl <| J.blk <| J.region <| O.p (Pu.add' rfl rfl (by first | omega | (have h_ := Gr.waitQ_bnd (g := (gOf l)) (i := k) (q := q) (by rw [← hw2]; assumption); omega) | (have h_ := Gr.called_len (g := (gOf l)) (f := (k : Int)); omega))) rfl <| O.m rfl rfl <| O.nil ?_
   exact J.lp ⟨k + 1, w2⟩ (show (k + 1) ≤ l.length ∧ w2 = Gr.waitQ (gOf l) (k + 1) 0 from ⟨by omega, (by rw [hw2]; exact Gr.waitQ_row (by omega))⟩) (show l.length - (k + 1) < l.length - k from (by omega)) ⟨rfl, rfl, rfl, rfl, (congrArg (fun z => some (Value.int .i64 z)) (by first | rfl | omega : ((k : Int) + 1 : Int) = ((k + 1) : Int))), trivial⟩ [0] (by decide) rfl
 ·
  have p13 := of_decide_eq_false h3
  refine J.exit _ rfl <| J.seq <| J.region <| O.m rfl rfl <| O.a rfl rfl <| O.nil ?_
  exact J.ret (Fin.ret (rs := [.tmp 2]) rfl [_] ⟨rfl, trivial⟩ [0] (by decide) [row V1 3 1 (w.map encZ)] rfl (congrArg (fun (z : List Int) => ([row V1 3 1 (z.map encZ)] : List Sp)) (show w = Gr.leftL (gOf l) [] from (by rw [hw, show k = (gOf l).length from by omega]; exact Gr.waitQ_all))))

set_option maxRecDepth 100000 in
set_option maxHeartbeats 1000000 in
theorem g_Order (lv : Value) (l : List Sg) (hl : l.length ≤ 1000) (hc : ∀ s ∈ l, s.cl.length ≤ 1000) : Tri prog 60 #[lv] [rd lv 14 (l.map Sg.cells), ros (l.map Sg.rd)] [] (fun v L' => ∃ V', v = .tuple #[V', .int .i64 (Gr.loops (gOf l))] ∧ L' = [row V' 3 1 ((Gr.ordL (gOf l)).map encZ)]) := by
 have hgl := gOf_len (l := l)
 refine Tri.enter (args := [lv]) (body := _) 43 func60 rfl ntmps60 rfl ?_
 intro w0
 refine J.seq <| J.region <| O.a rfl rfl <| O.a rfl rfl <| O.nil <| J.seq <| J.region <| O.a rfl rfl <| O.nil <| J.seq <| J.region <| O.m rfl rfl ?_
 refine O.l (Lo.call [lv] (by exact call97) rfl (g_waits lv l hl hc) [] [] (by decide) rfl [] rfl (RoOk.ro 0 rfl [] rfl (RoOk.ro 1 rfl [] rfl RoOk.nil))) rfl ?_
 rintro v1 _ ⟨_, rfl, rfl⟩
 refine O.a rfl rfl <| O.nil <| J.seq <| J.seq <| J.region <| O.m rfl rfl <| O.q (Qt.lenM runUnderlying23 rfl (Src.ro 0 rfl)) rfl <| O.m rfl rfl <| O.nil <| J.block <| J.nilRow 3 1 <| J.loop (X := Nat × Value × List Int × List Nat × List Int) (fun ξ => ξ.1 ≤ l.length ∧ Gr.ordN (gOf l) ξ.1 = some ξ.2.2.2.1 ∧ ξ.2.2.1 = ξ.2.2.2.1.map (fun (n : Nat) => (n : Int)) ∧ ξ.2.2.2.2 = Gr.leftL (gOf l) ξ.2.2.2.1) (fun ξ => [(0, lv), (4, ξ.2.1), (5, v1), (12, .int .i64 (l.length : Int)), (13, .int .i64 (ξ.1 : Int))]) (fun ξ => [row ξ.2.1 3 1 (ξ.2.2.1.map encZ), row v1 3 1 (ξ.2.2.2.2.map encZ)]) (fun ξ => l.length - ξ.1) ⟨0, Value.slice none 0 0, [], [], Gr.leftL (gOf l) []⟩ (show 0 ≤ l.length ∧ Gr.ordN (gOf l) 0 = some ([]) ∧ ([]) = ([]).map (fun (n : Nat) => (n : Int)) ∧ (Gr.leftL (gOf l) []) = Gr.leftL (gOf l) ([]) from ⟨by omega, rfl, rfl, rfl⟩) ⟨rfl, rfl, rfl, rfl, (congrArg (fun z => some (Value.int .i64 z)) (by first | rfl | omega : (0 : Int) = (0 : Int))), trivial⟩ [0, 1] (by decide) rfl ?_
 rintro ⟨k, V, u, o, w⟩ hq2
 obtain ⟨hk, ho, hu, hw⟩ : k ≤ l.length ∧ Gr.ordN (gOf l) k = some o ∧ u = o.map (fun (n : Nat) => (n : Int)) ∧ w = Gr.leftL (gOf l) o := hq2
 show J _ _ [(0, lv), (4, V), (5, v1), (12, .int .i64 (l.length : Int)), (13, .int .i64 (k : Int))] [row V 3 1 (u.map encZ), row v1 3 1 (w.map encZ)]
 refine J.seq <| J.region <| O.p (Pu.lss rfl rfl) rfl <| O.nil <| J.seq ?_
 refine J.cond rfl (fun h3 => ?_) (fun h3 => ?_)
 ·
  have p4 := of_decide_eq_true h3
  refine J.skip <| J.seq <| J.block <| J.seq <| J.region <| O.m rfl rfl <| O.l (Lo.call [v1, .int .i64 0] (by exact call98) rfl (s_Index v1 w 0 (by first | omega | (rw [hw, Gr.leftL_len]; omega) | (rw [hu, List.length_map, Gr.ord_len ho]; omega))) [] [0, 1] (by decide) rfl [row V 3 1 (u.map encZ), row v1 3 1 (w.map encZ)] rfl (RoOk.of 1 rfl row_rd [] (by decide) rfl RoOk.nil)) rfl ?_
  rintro _ _ ⟨_, ⟨k5, rfl, hx6, rfl⟩, rfl⟩
  refine O.a rfl rfl <| O.nil <| J.seq <| J.seq <| J.region <| O.m rfl rfl <| O.p (Pu.lss rfl rfl) rfl <| O.nil ?_
  refine J.cond rfl (fun h8 => ?_) (fun h8 => ?_)
  ·
   have p9 := of_decide_eq_true h8
   refine J.seq <| J.region <| O.a rfl rfl <| O.a rfl rfl <| O.nil <| J.nilRow 3 1 ?_
   show J _ _ _ [row (Value.slice none 0 0) 3 1 (([] : List Int).map encZ), row V 3 1 (u.map encZ), row v1 3 1 (w.map encZ)]
   exact J.ret (Fin.ret (rs := [.tmp 2, .tmp 3]) rfl [_, _] ⟨rfl, rfl, trivial⟩ [0] (by decide) [row (Value.slice none 0 0) 3 1 (([] : List Int).map encZ)] rfl ⟨Value.slice none 0 0, (by rw [Gr.loops_no (Gr.ord_stop ho (Gr.idx_none (by rw [← hw]; exact hx6) (by omega)) (by omega))]; rfl), (congrArg (fun (z : List Int) => ([row (Value.slice none 0 0) 3 1 (z.map encZ)] : List Sp)) (Gr.ordL_no (Gr.ord_stop ho (Gr.idx_none (by rw [← hw]; exact hx6) (by omega)) (by omega))).symm)⟩)
  ·
   have p10 := of_decide_eq_false h8
   refine J.skip <| J.seq ?_
   obtain ⟨p, rfl, hp⟩ := Gr.idx_some (by rw [← hw]; exact hx6) (by omega)
   have hpl := (Gr.pick_some hp).1
   have hwl0 : w.length = l.length := by rw [hw, Gr.leftL_len, hgl]
   refine J.region <| O.m rfl rfl <| O.m rfl rfl ?_
   obtain ⟨e11, he11⟩ : ∃ x_, w[p]? = some x_ := ⟨_, List.getElem?_eq_getElem (by first | omega | (simp only [List.length_set]; omega) | (rw [hu, List.length_map, Gr.ord_len ho]; simp only [List.length_cons, List.length_nil]; omega))⟩
   refine O.q (Qt.idxM runUnderlying53 sizeOf3 rfl (Src.row 1 rfl) rfl (by first | omega | (simp only [List.length_set]; omega) | (rw [hu, List.length_map, Gr.ord_len ho]; simp only [List.length_cons, List.length_nil]; omega)) (by first | omega | (simp only [List.length_set]; omega) | (rw [hu, List.length_map, Gr.ord_len ho]; simp only [List.length_cons, List.length_nil]; omega))) rfl <| O.l0 (Lo.storeM 1 (j := p) (off := 0) (vs := [.int .i64 (-1)]) (e := [.int .i64 e11]) (-1) rfl rfl rfl rfl (by omega) he11 rfl (by exact sizeOf3) rfl rfl rfl rfl rfl) ?_
   rintro _ _ rfl
   refine O.nil <| J.seq <| J.seq <| J.region <| O.m rfl rfl <| O.m rfl rfl <| O.l (Lo.call [lv, .int .i64 (p : Int)] (by exact call99) rfl (g_called lv l (p : Int) hl hc) [] [0, 1] (by decide) rfl [row V 3 1 (u.map encZ), row v1 3 1 ((w.set p (-1)).map encZ)] rfl (RoOk.ro 0 rfl [] rfl (RoOk.ro 1 rfl [] rfl RoOk.nil))) rfl ?_
   rintro v13 _ ⟨_, rfl, rfl⟩
   refine O.q (Qt.lenM runUnderlying53 rfl (Src.row 0 rfl)) rfl <| O.m rfl rfl <| O.nil <| J.block <| J.loop (X := Nat × List Int) (fun ξ => ξ.1 ≤ (Gr.called (gOf l) (p : Int)).length ∧ ξ.2 = Gr.leftQ (gOf l) o p ξ.1) (fun ξ => [(0, lv), (4, V), (5, v1), (6, .int .i64 (p : Int)), (12, .int .i64 (l.length : Int)), (13, .int .i64 (k : Int)), (24, v13), (25, .int .i64 ((Gr.called (gOf l) (p : Int)).length : Int)), (26, .int .i64 (ξ.1 : Int))]) (fun ξ => [row V 3 1 (u.map encZ), row v1 3 1 (ξ.2.map encZ), row v13 3 1 ((Gr.called (gOf l) (p : Int)).map encZ)]) (fun ξ => (Gr.called (gOf l) (p : Int)).length - ξ.1) ⟨0, w.set p (-1)⟩ (show 0 ≤ (Gr.called (gOf l) (p : Int)).length ∧ (w.set p (-1)) = Gr.leftQ (gOf l) o p 0 from ⟨by omega, (by rw [hw]; exact Gr.leftQ_zero)⟩) ⟨rfl, rfl, rfl, rfl, rfl, rfl, rfl, rfl, (congrArg (fun z => some (Value.int .i64 z)) (by first | rfl | omega : (0 : Int) = (0 : Int))), trivial⟩ [1, 2, 0] (by decide) rfl ?_
   rintro ⟨q, w2⟩ hq14
   obtain ⟨hq, hw2⟩ : q ≤ (Gr.called (gOf l) (p : Int)).length ∧ w2 = Gr.leftQ (gOf l) o p q := hq14
   show J _ _ [(0, lv), (4, V), (5, v1), (6, .int .i64 (p : Int)), (12, .int .i64 (l.length : Int)), (13, .int .i64 (k : Int)), (24, v13), (25, .int .i64 ((Gr.called (gOf l) (p : Int)).length : Int)), (26, .int .i64 (q : Int))] [row V 3 1 (u.map encZ), row v1 3 1 (w2.map encZ), row v13 3 1 ((Gr.called (gOf l) (p : Int)).map encZ)]
   refine J.seq <| J.region <| O.p (Pu.lss rfl rfl) rfl <| O.nil <| J.seq ?_
   refine J.cond rfl (fun h15 => ?_) (fun h15 => ?_)
   ·
    have p16 := of_decide_eq_true h15
    refine J.skip <| J.seq <| J.block <| J.seq <| J.region ?_
    obtain ⟨e17, he17⟩ : ∃ x_, (Gr.called (gOf l) (p : Int))[q]? = some x_ := ⟨_, List.getElem?_eq_getElem (by first | omega | (simp only [List.length_set]; omega) | (rw [hu, List.length_map, Gr.ord_len ho]; simp only [List.length_cons, List.length_nil]; omega))⟩
    refine O.q (Qt.idxM runUnderlying53 sizeOf3 rfl (Src.row 2 rfl) rfl (by first | omega | (simp only [List.length_set]; omega) | (rw [hu, List.length_map, Gr.ord_len ho]; simp only [List.length_cons, List.length_nil]; omega)) (by first | omega | (simp only [List.length_set]; omega) | (rw [hu, List.length_map, Gr.ord_len ho]; simp only [List.length_cons, List.length_nil]; omega))) rfl <| O.q (Qt.ld rfl (Cel.eltM (Src.row 2 rfl) he17) (o := (voff v13 + q * 1)) (off := 0) (by omega) (Cut.one isAgg3 rfl)) rfl <| O.a rfl rfl <| O.nil ?_
    obtain ⟨jt, hjt, hjl⟩ := Gr.called_bnd he17
    have hwl : w2.length = l.length := by rw [hw2, Gr.leftQ_len, hgl]
    obtain ⟨e18, he18⟩ : ∃ x_, w2[(e17).toNat]? = some x_ := ⟨_, List.getElem?_eq_getElem (by first | omega | (simp only [List.length_set]; omega) | (rw [hu, List.length_map, Gr.ord_len ho]; simp only [List.length_cons, List.length_nil]; omega))⟩
    refine J.region <| O.m rfl rfl <| O.m rfl rfl <| O.q (Qt.idxM runUnderlying53 sizeOf3 rfl (Src.row 1 rfl) rfl (by first | omega | (simp only [List.length_set]; omega) | (rw [hu, List.length_map, Gr.ord_len ho]; simp only [List.length_cons, List.length_nil]; omega)) (by first | omega | (simp only [List.length_set]; omega) | (rw [hu, List.length_map, Gr.ord_len ho]; simp only [List.length_cons, List.length_nil]; omega))) rfl <| O.q (Qt.ld rfl (Cel.eltM (Src.row 1 rfl) he18) (o := (voff v1 + ((e17).toNat) * 1)) (off := 0) (by omega) (Cut.one isAgg3 rfl)) rfl <| O.p (Pu.sub' rfl rfl (by first | omega | (have h_ := Gr.leftQ_bnd (g := (gOf l)) (o := o) (p := p) (q := q) (by rw [← hw2]; assumption); omega) | (have h_ := Gr.called_len (g := (gOf l)) (f := (p : Int)); omega))) rfl <| O.q (Qt.idxM runUnderlying53 sizeOf3 rfl (Src.row 1 rfl) rfl (by first | omega | (simp only [List.length_set]; omega) | (rw [hu, List.length_map, Gr.ord_len ho]; simp only [List.length_cons, List.length_nil]; omega)) (by first | omega | (simp only [List.length_set]; omega) | (rw [hu, List.length_map, Gr.ord_len ho]; simp only [List.length_cons, List.length_nil]; omega))) rfl <| O.l0 (Lo.storeM 1 (j := (e17).toNat) (off := 0) (vs := [.int .i64 (e18 - 1)]) (e := [.int .i64 e18]) (e18 - 1) rfl rfl rfl rfl (by omega) he18 rfl (by exact sizeOf3) rfl rfl rfl rfl rfl) ?_
    rintro _ _ rfl
    refine O.nil <| J.blk <| J.region <| O.p (Pu.add' rfl rfl (by first | omega | (have h_ := Gr.leftQ_bnd (g := (gOf l)) (o := o) (p := p) (q := q) (by rw [← hw2]; assumption); omega) | (have h_ := Gr.called_len (g := (gOf l)) (f := (p : Int)); omega))) rfl <| O.m rfl rfl <| O.nil ?_
    exact J.lp ⟨q + 1, w2.set (e17).toNat (e18 - 1)⟩ (show (q + 1) ≤ (Gr.called (gOf l) (p : Int)).length ∧ (w2.set (e17).toNat (e18 - 1)) = Gr.leftQ (gOf l) o p (q + 1) from ⟨by omega, (by rw [hw2]; exact Gr.leftQ_next ho hp he17 (by rw [← hw2]; exact he18))⟩) (show (Gr.called (gOf l) (p : Int)).length - (q + 1) < (Gr.called (gOf l) (p : Int)).length - q from (by first | omega | (simp only [List.length_set]; omega) | (rw [hu, List.length_map, Gr.ord_len ho]; simp only [List.length_cons, List.length_nil]; omega))) ⟨rfl, rfl, rfl, rfl, rfl, rfl, rfl, rfl, (congrArg (fun z => some (Value.int .i64 z)) (by first | rfl | omega : ((q : Int) + 1 : Int) = ((q + 1) : Int))), trivial⟩ [0, 1, 2] (by decide) rfl
   ·
    have p20 := of_decide_eq_false h15
    refine J.exit _ rfl <| J.region <| O.m rfl rfl <| O.m rfl rfl <| O.l (Lo.buildM (s := 1) encZ [(p : Int)] [(0, .int .i64 (p : Int))] (by exact runUnderlying53) (by exact sizeOf3) (by exact zeroValue3) rfl rfl rfl (by kernel_rfl) rfl rfl) rfl ?_
    rintro V21 _ rfl
    refine O.l (Lo.appendM (s := 1) 1 (by exact underlying53) (by exact (info3).1) (by exact (info3).2.1) (by exact (info3).2.2.1) (by exact (info3).2.2.2) rfl rfl rfl rfl rfl (Src.row 0 rfl) encZ.one (by first | omega | (simp only [List.length_set]; omega) | (rw [hu, List.length_map, Gr.ord_len ho]; simp only [List.length_cons, List.length_nil]; omega)) (by first | omega | (simp only [List.length_set]; omega) | (rw [hu, List.length_map, Gr.ord_len ho]; simp only [List.length_cons, List.length_nil]; omega))) rfl ?_
    rintro V22 _ rfl
    refine O.a rfl rfl <| O.nil <| J.blk <| J.region <| O.p (Pu.add' rfl rfl (by first | omega | (have h_ := Gr.leftQ_bnd (g := (gOf l)) (o := o) (p := p) (q := q) (by rw [← hw2]; assumption); omega) | (have h_ := Gr.called_len (g := (gOf l)) (f := (p : Int)); omega))) rfl <| O.m rfl rfl <| O.nil ?_
    exact J.lp ⟨k + 1, V22, u ++ ([(p : Int)]), o ++ [p], w2⟩ (show (k + 1) ≤ l.length ∧ Gr.ordN (gOf l) (k + 1) = some (o ++ [p]) ∧ (u ++ ([(p : Int)])) = (o ++ [p]).map (fun (n : Nat) => (n : Int)) ∧ w2 = Gr.leftL (gOf l) (o ++ [p]) from ⟨by omega, Gr.ord_more ho hp, (by rw [hu]; simp), (by rw [hw2]; exact Gr.leftQ_end hp (by omega))⟩) (show l.length - (k + 1) < l.length - k from (by first | omega | (simp only [List.length_set]; omega) | (rw [hu, List.length_map, Gr.ord_len ho]; simp only [List.length_cons, List.length_nil]; omega))) ⟨rfl, rfl, rfl, rfl, (congrArg (fun z => some (Value.int .i64 z)) (by first | rfl | omega : ((k : Int) + 1 : Int) = ((k + 1) : Int))), trivial⟩ [1, 2] (by decide) rfl
 ·
  have p23 := of_decide_eq_false h3
  refine J.exit _ rfl <| J.seq <| J.region <| O.m rfl rfl <| O.a rfl rfl <| O.a rfl rfl <| O.nil ?_
  exact J.ret (Fin.ret (rs := [.tmp 2, .tmp 3]) rfl [_, _] ⟨rfl, rfl, trivial⟩ [0] (by decide) [row V 3 1 (u.map encZ)] rfl ⟨V, (by rw [Gr.loops_yes (show Gr.ordN (gOf l) (gOf l).length = some o from (by rw [show (gOf l).length = k from by omega]; exact ho))]; rfl), (congrArg (fun (z : List Int) => ([row V 3 1 (z.map encZ)] : List Sp)) (show u = Gr.ordL (gOf l) from (by rw [Gr.ordL_yes (show Gr.ordN (gOf l) (gOf l).length = some o from (by rw [show (gOf l).length = k from by omega]; exact ho)), hu])))⟩)

set_option maxRecDepth 100000 in
theorem g_Check (lv : Value) (l : List Sg) (hl : l.length ≤ 1000) (hc : ∀ s ∈ l, s.cl.length ≤ 1000) : Tri prog 28 #[lv] [rd lv 14 (l.map Sg.cells), ros (l.map Sg.rd)] [] (fun v L' => v = .int .i64 (Gr.loops (gOf l)) ∧ L' = []) := by
 have hgl := gOf_len (l := l)
 refine Tri.enter (args := [lv]) (body := _) 11 func28 rfl ntmps28 rfl ?_
 intro w0
 refine J.seq <| J.region <| O.a rfl rfl <| O.nil <| J.seq <| J.region <| O.m rfl rfl <| O.l (Lo.call [lv] (by exact call60) rfl (g_Order lv l hl hc) [] [] (by decide) rfl [] rfl (RoOk.ro 0 rfl [] rfl (RoOk.ro 1 rfl [] rfl RoOk.nil))) rfl ?_
 rintro _ _ ⟨_, ⟨V1, rfl, rfl⟩, rfl⟩
 refine O.m rfl rfl <| O.p (Pu.extract rfl rfl) rfl <| O.p (Pu.extract rfl rfl) rfl <| O.a rfl rfl <| O.a rfl rfl <| O.nil <| J.seq <| J.region <| O.m rfl rfl <| O.a rfl rfl <| O.nil ?_
 exact J.ret (Fin.ret (rs := [.tmp 2]) rfl [_] ⟨rfl, trivial⟩ [] (by decide) [] rfl ⟨rfl, rfl⟩)

end Go.Proofs.YtnhfgnnpbipcnaaGreatDoor

namespace Go.Proofs.YtnhfgnnpbipcnaaGreatDoor
open Go Go.LK Go.Proofs.Tryz
set_option linter.unusedSimpArgs false

end Go.Proofs.YtnhfgnnpbipcnaaGreatDoor
