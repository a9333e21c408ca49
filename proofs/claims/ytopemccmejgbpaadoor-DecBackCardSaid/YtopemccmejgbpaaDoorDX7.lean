/-
  Walks, printed by a program of mine (lk.py): each function meets its contract.
-/
import Derived.KernelRfl
import Derived.Test.YtopemccmejgbpaaDoorDX4
import Derived.Test.YtopemccmejgbpaaDoorDec3
namespace Go.Proofs.YtopemccmejgbpaaDoor
open Go Go.LK
set_option linter.unusedSimpArgs false

theorem s_Join (tv : Value) (ts : List (List UInt8)) (hne : ts ≠ []) (hn : ts.length ≤ 100000) (hl : (Lib.join ts [44]).length ≤ 100000000) : Tri Tryd.prog 25 #[tv, str [44]] [rd tv 1 (ts.map encS)] [] (fun v L' => v = str (Lib.join ts [44]) ∧ L' = []) :=
  Tri.lib fun w hro => by
    have he : Elt w tv 1 (ts.map encS) := hro (rd tv 1 (ts.map encS)) (by simp)
    obtain ⟨cap, hv⟩ := he.addr (by simpa using hne)
    obtain ⟨A0, cap0, hv0, hle, _⟩ := he.form
    have hcells := he.cells
    have hcap : ts.length ≤ cap := by
      rw [hv] at hv0
      injection hv0 with h1 h2 h3
      rw [List.length_map] at hle
      omega
    clear he hv0 hle hro
    rw [List.length_map] at hv
    generalize vblk tv = b at hv hcells
    generalize voff tv = o at hv hcells
    subst hv
    have hc : ∀ (j : Nat) x, (ts.map fun t => (⟨t.toArray⟩ : ByteArray))[j]? = some x → w.cell? ⟨b, o + j, none⟩ = some (.string x) := fun j x hx => by
      rw [List.getElem?_map] at hx
      obtain ⟨t, ht, rfl⟩ := Option.map_eq_some_iff.1 hx
      have := hcells j (encS t) 0 (str t) (by rw [List.getElem?_map, ht]; rfl) rfl
      rwa [Nat.mul_one, Nat.add_zero] at this
    have hb : b < w.heap.size := by
      obtain ⟨t, ht⟩ := List.exists_mem_of_ne_nil ts hne
      obtain ⟨j, hj⟩ := List.mem_iff_getElem?.1 ht
      exact cell_lt (hc j ⟨t.toArray⟩ (by rw [List.getElem?_map, hj]; rfl))
    have hmap : (ts.map fun t => (⟨t.toArray⟩ : ByteArray)).map (·.data.toList) = ts := by
      rw [List.map_map]
      show ts.map (fun t => t) = ts
      simp
    have h := Tryd.strings_Join b o cap (ts.map fun t => ⟨t.toArray⟩) ⟨[44].toArray⟩ w hc hb (by rw [List.length_map]; omega) (by rw [List.length_map]; exact hcap) (by rw [hmap]; exact Nat.le_trans hl (by decide))
    rw [hmap, List.length_map] at h
    exact h.mono fun e w' ⟨he, hw⟩ => ⟨he, Frame.of_below hw⟩

set_option maxRecDepth 100000 in
theorem dec_List (lv : Value) (l : List Int) (hl : l.length ≤ 1000) (hI : Dc.I64s l) : Tri Tryd.prog 17 #[lv] [libW, rd lv 1 (l.map encZ)] [] (fun v L' => v = str (Dc.listText l) ∧ L' = []) := by
  refine Tri.enter (args := [lv]) (body := _) 23 Tryd.func17 rfl Tryd.ntmps17 rfl ?_
  intro w0
  refine J.seq ?_
  refine J.region ?_
  refine O.p (Pu.assign rfl) rfl ?_
  refine O.nil ?_
  refine J.seq ?_
  refine J.seq ?_
  refine J.region ?_
  refine O.p (Pu.move rfl) rfl ?_
  refine O.q (Qt.lenM Tryd.runUnderlying32 rfl (Src.ro 1 rfl)) rfl ?_
  refine O.p (Pu.eql rfl rfl) rfl ?_
  refine O.nil ?_
  refine J.cond rfl (fun h1 => ?_) (fun h1 => ?_)
  ·
    have p2 := of_decide_eq_true h1
    refine J.seq ?_
    refine J.region ?_
    refine O.p (Pu.assign rfl) rfl ?_
    refine O.nil ?_
    exact J.ret (Fin.ret (rs := [.tmp 2]) rfl [_] ⟨rfl, trivial⟩ [] (by decide) [] rfl ⟨(by rw [Dc.lt_nil (by omega)]; rfl), rfl⟩)
  ·
    have p3 := of_decide_eq_false h1
    refine J.skip ?_
    refine J.seq ?_
    refine J.region ?_
    refine O.p (Pu.assign rfl) rfl ?_
    refine O.nil ?_
    refine J.seq ?_
    refine J.seq ?_
    refine J.region ?_
    refine O.p (Pu.move rfl) rfl ?_
    refine O.q (Qt.lenM Tryd.runUnderlying32 rfl (Src.ro 1 rfl)) rfl ?_
    refine O.p (Pu.move rfl) rfl ?_
    refine O.nil ?_
    refine J.block ?_
    refine J.nilRow 9 1 ?_
    refine J.loop (X := Nat × Value × List (List UInt8)) (fun ξ => ξ.1 ≤ l.length ∧ ξ.2.2 = (l.take ξ.1).map Lib.itoa ∧ ξ.2.2.length = ξ.1) (fun ξ => [(2, str ([] : List UInt8)), (3, ξ.2.1), (9, lv), (10, .int .i64 (l.length : Int)), (11, .int .i64 (ξ.1 : Int))]) (fun ξ => [row ξ.2.1 9 1 (ξ.2.2.map encS)]) (fun ξ => l.length - ξ.1) ⟨0, Value.slice none 0 0, []⟩ (show 0 ≤ l.length ∧ ([]) = (l.take 0).map Lib.itoa ∧ ([]).length = 0 from ⟨by omega, rfl, rfl⟩) ⟨rfl, rfl, rfl, rfl, (congrArg (fun z => some (Value.int .i64 z)) (by first | rfl | omega : (0 : Int) = (0 : Int))), trivial⟩ [0] (by decide) rfl ?_
    rintro ⟨k, V, out⟩ hq4
    obtain ⟨hk, hst, hlen⟩ : k ≤ l.length ∧ out = (l.take k).map Lib.itoa ∧ out.length = k := hq4
    show J _ _ [(2, str ([] : List UInt8)), (3, V), (9, lv), (10, .int .i64 (l.length : Int)), (11, .int .i64 (k : Int))] [row V 9 1 (out.map encS)]
    refine J.seq ?_
    refine J.region ?_
    refine O.p (Pu.lss rfl rfl) rfl ?_
    refine O.nil ?_
    refine J.seq ?_
    refine J.cond rfl (fun h5 => ?_) (fun h5 => ?_)
    ·
      have p6 := of_decide_eq_true h5
      refine J.skip ?_
      refine J.seq ?_
      refine J.block ?_
      refine J.seq ?_
      refine J.region ?_
      obtain ⟨e7, he7⟩ : ∃ x_, l[k]? = some x_ := ⟨_, List.getElem?_eq_getElem (by first | omega | (have h_ := hI _ (List.mem_of_getElem? (by assumption)); unfold Dc.I64 at h_; omega) | (simp only [List.length_append, List.length_cons, List.length_nil]; omega))⟩
      refine O.q (Qt.idxM Tryd.runUnderlying32 Tryd.sizeOf3 rfl (Src.ro 1 rfl) rfl (by first | omega | (have h_ := hI _ (List.mem_of_getElem? (by assumption)); unfold Dc.I64 at h_; omega) | (simp only [List.length_append, List.length_cons, List.length_nil]; omega)) (by first | omega | (have h_ := hI _ (List.mem_of_getElem? (by assumption)); unfold Dc.I64 at h_; omega) | (simp only [List.length_append, List.length_cons, List.length_nil]; omega))) rfl ?_
      refine O.q (Qt.ld rfl (Cel.eltM (Src.ro 1 rfl) he7) (o := (voff lv + k * 1)) (off := 0) (by omega) (Cut.one Tryd.isAgg3 rfl)) rfl ?_
      refine O.p (Pu.assign rfl) rfl ?_
      refine O.nil ?_
      refine J.region ?_
      refine O.p (Pu.move rfl) rfl ?_
      refine O.p (Pu.move rfl) rfl ?_
      refine O.l (Lo.call [.int .i64 e7] (by exact Tryd.call11) rfl (dec_Text e7 (by first | omega | (have h_ := hI _ (List.mem_of_getElem? (by assumption)); unfold Dc.I64 at h_; omega) | (simp only [List.length_append, List.length_cons, List.length_nil]; omega)) (by first | omega | (have h_ := hI _ (List.mem_of_getElem? (by assumption)); unfold Dc.I64 at h_; omega) | (simp only [List.length_append, List.length_cons, List.length_nil]; omega))) [] [0] (by decide) rfl _ rfl (RoOk.ro 0 rfl [] rfl RoOk.nil)) rfl ?_
      rintro _ _ ⟨_, ⟨rfl, rfl⟩, rfl⟩
      refine O.l (Lo.buildM (s := 1) encS [Lib.itoa e7] [(0, str (Lib.itoa e7))] (by exact Tryd.runUnderlying48) (by exact Tryd.sizeOf9) (by exact Tryd.zeroValue9) rfl rfl rfl (by kernel_rfl) rfl rfl) rfl ?_
      rintro V9 _ rfl
      refine O.l (Lo.appendM (s := 1) 1 (by exact Tryd.underlying48) (by exact (info9).1) (by exact (info9).2.1) (by exact (info9).2.2.1) (by exact (info9).2.2.2) rfl rfl rfl rfl rfl (Src.row 0 rfl) encS.one (by first | omega | (have h_ := hI _ (List.mem_of_getElem? (by assumption)); unfold Dc.I64 at h_; omega) | (simp only [List.length_append, List.length_cons, List.length_nil]; omega)) (by first | omega | (have h_ := hI _ (List.mem_of_getElem? (by assumption)); unfold Dc.I64 at h_; omega) | (simp only [List.length_append, List.length_cons, List.length_nil]; omega))) rfl ?_
      rintro V10 _ rfl
      refine O.p (Pu.assign rfl) rfl ?_
      refine O.nil ?_
      refine J.blk ?_
      refine J.region ?_
      refine O.p (Pu.add' rfl rfl (by first | omega | (simp only [List.length_append, List.length_cons, List.length_nil, List.length_set]; omega))) rfl ?_
      refine O.p (Pu.move rfl) rfl ?_
      refine O.nil ?_
      exact J.lp ⟨k + 1, V10, out ++ ([Lib.itoa e7])⟩ (show (k + 1) ≤ l.length ∧ (out ++ ([Lib.itoa e7])) = (l.take (k + 1)).map Lib.itoa ∧ (out ++ ([Lib.itoa e7])).length = (k + 1) from ⟨by omega, (by rw [hst]; exact (Dc.map_take_next (by assumption)).symm), by simp [hlen]⟩) (show l.length - (k + 1) < l.length - k from (by first | omega | (have h_ := hI _ (List.mem_of_getElem? (by assumption)); unfold Dc.I64 at h_; omega) | (simp only [List.length_append, List.length_cons, List.length_nil]; omega))) ⟨rfl, rfl, rfl, rfl, (congrArg (fun z => some (Value.int .i64 z)) (by first | rfl | omega : ((k : Int) + 1 : Int) = ((k + 1) : Int))), trivial⟩ [1] (by decide) rfl
    ·
      have p11 := of_decide_eq_false h5
      refine J.exit _ rfl ?_
      refine J.seq ?_
      refine J.region ?_
      refine O.p (Pu.move rfl) rfl ?_
      refine O.l (Lo.call [V, str ([44])] (by exact Tryd.call25) rfl (s_Join V out (by intro h_; have h2_ := congrArg List.length h_; rw [List.length_nil] at h2_; omega) (by omega) (by have h_ := Dc.joinU_len hI k; unfold Dc.joinU at h_; rw [← hst] at h_; omega)) [] [0] (by decide) rfl _ rfl (RoOk.of 0 rfl row_rd [] (by decide) rfl RoOk.nil)) rfl ?_
      rintro _ _ ⟨_, ⟨rfl, rfl⟩, rfl⟩
      refine O.p (Pu.assign rfl) rfl ?_
      refine O.nil ?_
      exact J.ret (Fin.ret (rs := [.tmp 2]) rfl [_] ⟨rfl, trivial⟩ [] (by decide) [] rfl ⟨(by have hk_ : k = l.length := (by omega); subst hk_; rw [Dc.lt_all (by omega), hst, List.take_length]; rfl), rfl⟩)

set_option maxRecDepth 100000 in
theorem r05_List (lv : Value) (l : List Int) (hl : l.length ≤ 1000) (hI : Dc.I64s l) : Tri Tryd.prog 18 #[lv] [rd lv 1 (l.map encZ)] [] (fun v L' => v = str (Dc.listText l) ∧ L' = []) := by
  refine Tri.enter (args := [lv]) (body := _) 26 Tryd.func18 rfl Tryd.ntmps18 rfl ?_
  intro w0
  refine J.seq ?_
  refine J.region ?_
  refine O.p (Pu.assign rfl) rfl ?_
  refine O.nil ?_
  refine J.seq ?_
  refine J.region ?_
  refine O.p (Pu.assign rfl) rfl ?_
  refine O.nil ?_
  refine J.seq ?_
  refine J.seq ?_
  refine J.region ?_
  refine O.p (Pu.assign rfl) rfl ?_
  refine O.nil ?_
  refine J.block ?_
  refine J.loop (X := Nat × List UInt8) (fun ξ => ξ.1 ≤ l.length ∧ ξ.2 = Dc.joinU l ξ.1) (fun ξ => [(0, lv), (2, str ([] : List UInt8)), (3, str ξ.2), (4, .int .i64 (ξ.1 : Int))]) (fun ξ => []) (fun ξ => l.length - ξ.1) ⟨0, ([] : List UInt8)⟩ (show 0 ≤ l.length ∧ ([] : List UInt8) = Dc.joinU l 0 from ⟨by omega, rfl⟩) ⟨rfl, rfl, rfl, (congrArg (fun z => some (Value.int .i64 z)) (by first | rfl | omega : (0 : Int) = (0 : Int))), trivial⟩ [] (by decide) rfl ?_
  rintro ⟨k, t⟩ hq1
  obtain ⟨hk, hst⟩ : k ≤ l.length ∧ t = Dc.joinU l k := hq1
  show J _ _ [(0, lv), (2, str ([] : List UInt8)), (3, str t), (4, .int .i64 (k : Int))] []
  refine J.seq ?_
  refine J.seq ?_
  refine J.region ?_
  refine O.p (Pu.move rfl) rfl ?_
  refine O.p (Pu.move rfl) rfl ?_
  refine O.q (Qt.lenM Tryd.runUnderlying32 rfl (Src.ro 0 rfl)) rfl ?_
  refine O.p (Pu.lss rfl rfl) rfl ?_
  refine O.nil ?_
  refine J.cond rfl (fun h2 => ?_) (fun h2 => ?_)
  ·
    have p3 := of_decide_eq_true h2
    refine J.skip ?_
    refine J.seq ?_
    refine J.block ?_
    refine J.seq ?_
    refine J.seq ?_
    refine J.region ?_
    refine O.p (Pu.move rfl) rfl ?_
    refine O.p (Pu.gtr rfl rfl) rfl ?_
    refine O.nil ?_
    refine J.cond rfl (fun h4 => ?_) (fun h4 => ?_)
    ·
      have p5 := of_decide_eq_true h4
      refine J.region ?_
      refine O.p (Pu.move rfl) rfl ?_
      refine O.p (Pu.sAdd rfl rfl (by have h_ := Dc.joinU_len hI k; rw [← hst] at h_; first | (simp only [List.length_append, List.length_cons, List.length_nil]; omega) | (have h2_ := Dc.itoa_le (hI _ (List.mem_of_getElem? (by assumption))); simp only [List.length_append, List.length_cons, List.length_nil]; omega) | (have h2_ := Dc.itoa_le (hI _ (List.mem_of_getElem? (by assumption))); omega))) rfl ?_
      refine O.p (Pu.assign rfl) rfl ?_
      refine O.nil ?_
      refine J.region ?_
      refine O.p (Pu.move rfl) rfl ?_
      refine O.p (Pu.move rfl) rfl ?_
      refine O.p (Pu.move rfl) rfl ?_
      obtain ⟨e6, he6⟩ : ∃ x_, l[k]? = some x_ := ⟨_, List.getElem?_eq_getElem (by first | omega | (simp only [List.length_append, List.length_cons, List.length_nil, List.length_set]; omega))⟩
      refine O.q (Qt.idxM Tryd.runUnderlying32 Tryd.sizeOf3 rfl (Src.ro 0 rfl) rfl (by first | omega | (simp only [List.length_append, List.length_cons, List.length_nil, List.length_set]; omega)) (by first | omega | (simp only [List.length_append, List.length_cons, List.length_nil, List.length_set]; omega))) rfl ?_
      refine O.q (Qt.ld rfl (Cel.eltM (Src.ro 0 rfl) he6) (o := (voff lv + k * 1)) (off := 0) (by omega) (Cut.one Tryd.isAgg3 rfl)) rfl ?_
      refine O.l (Lo.call [.int .i64 e6] (by exact Tryd.call12) rfl (r05_Text e6 (by exact hI _ (List.mem_of_getElem? (by assumption)))) [] [] (by decide) rfl _ rfl RoOk.nil) rfl ?_
      rintro _ _ ⟨_, ⟨rfl, rfl⟩, rfl⟩
      refine O.p (Pu.sAdd rfl rfl (by have h_ := Dc.joinU_len hI k; rw [← hst] at h_; first | (simp only [List.length_append, List.length_cons, List.length_nil]; omega) | (have h2_ := Dc.itoa_le (hI _ (List.mem_of_getElem? (by assumption))); simp only [List.length_append, List.length_cons, List.length_nil]; omega) | (have h2_ := Dc.itoa_le (hI _ (List.mem_of_getElem? (by assumption))); omega))) rfl ?_
      refine O.p (Pu.assign rfl) rfl ?_
      refine O.nil ?_
      refine J.blk ?_
      refine J.region ?_
      refine O.p (Pu.move rfl) rfl ?_
      refine O.p (Pu.add' rfl rfl (by first | omega | (simp only [List.length_append, List.length_cons, List.length_nil, List.length_set]; omega))) rfl ?_
      refine O.p (Pu.assign rfl) rfl ?_
      refine O.nil ?_
      exact J.lp ⟨k + 1, (t ++ ([44])) ++ (Lib.itoa e6)⟩ (show (k + 1) ≤ l.length ∧ ((t ++ ([44])) ++ (Lib.itoa e6)) = Dc.joinU l (k + 1) from ⟨by omega, (by rw [Dc.joinU_next (by assumption)]; first | (rw [if_neg (by omega), ← hst]; done) | (rw [if_pos (by omega), hst]; have hk_ : k = 0 := (by omega); subst hk_; rfl))⟩) (show l.length - (k + 1) < l.length - k from (by first | omega | (simp only [List.length_append, List.length_cons, List.length_nil, List.length_set]; omega))) ⟨rfl, rfl, rfl, (congrArg (fun z => some (Value.int .i64 z)) (by first | rfl | omega : ((k : Int) + 1 : Int) = ((k + 1) : Int))), trivial⟩ [] (by decide) rfl
    ·
      have p8 := of_decide_eq_false h4
      refine J.skip ?_
      refine J.region ?_
      refine O.p (Pu.move rfl) rfl ?_
      refine O.p (Pu.move rfl) rfl ?_
      refine O.p (Pu.move rfl) rfl ?_
      obtain ⟨e9, he9⟩ : ∃ x_, l[k]? = some x_ := ⟨_, List.getElem?_eq_getElem (by first | omega | (simp only [List.length_append, List.length_cons, List.length_nil, List.length_set]; omega))⟩
      refine O.q (Qt.idxM Tryd.runUnderlying32 Tryd.sizeOf3 rfl (Src.ro 0 rfl) rfl (by first | omega | (simp only [List.length_append, List.length_cons, List.length_nil, List.length_set]; omega)) (by first | omega | (simp only [List.length_append, List.length_cons, List.length_nil, List.length_set]; omega))) rfl ?_
      refine O.q (Qt.ld rfl (Cel.eltM (Src.ro 0 rfl) he9) (o := (voff lv + k * 1)) (off := 0) (by omega) (Cut.one Tryd.isAgg3 rfl)) rfl ?_
      refine O.l (Lo.call [.int .i64 e9] (by exact Tryd.call12) rfl (r05_Text e9 (by exact hI _ (List.mem_of_getElem? (by assumption)))) [] [] (by decide) rfl _ rfl RoOk.nil) rfl ?_
      rintro _ _ ⟨_, ⟨rfl, rfl⟩, rfl⟩
      refine O.p (Pu.sAdd rfl rfl (by have h_ := Dc.joinU_len hI k; rw [← hst] at h_; first | (simp only [List.length_append, List.length_cons, List.length_nil]; omega) | (have h2_ := Dc.itoa_le (hI _ (List.mem_of_getElem? (by assumption))); simp only [List.length_append, List.length_cons, List.length_nil]; omega) | (have h2_ := Dc.itoa_le (hI _ (List.mem_of_getElem? (by assumption))); omega))) rfl ?_
      refine O.p (Pu.assign rfl) rfl ?_
      refine O.nil ?_
      refine J.blk ?_
      refine J.region ?_
      refine O.p (Pu.move rfl) rfl ?_
      refine O.p (Pu.add' rfl rfl (by first | omega | (simp only [List.length_append, List.length_cons, List.length_nil, List.length_set]; omega))) rfl ?_
      refine O.p (Pu.assign rfl) rfl ?_
      refine O.nil ?_
      exact J.lp ⟨k + 1, t ++ (Lib.itoa e9)⟩ (show (k + 1) ≤ l.length ∧ (t ++ (Lib.itoa e9)) = Dc.joinU l (k + 1) from ⟨by omega, (by rw [Dc.joinU_next (by assumption)]; first | (rw [if_neg (by omega), ← hst]; done) | (rw [if_pos (by omega), hst]; have hk_ : k = 0 := (by omega); subst hk_; rfl))⟩) (show l.length - (k + 1) < l.length - k from (by first | omega | (simp only [List.length_append, List.length_cons, List.length_nil, List.length_set]; omega))) ⟨rfl, rfl, rfl, (congrArg (fun z => some (Value.int .i64 z)) (by first | rfl | omega : ((k : Int) + 1 : Int) = ((k + 1) : Int))), trivial⟩ [] (by decide) rfl
  ·
    have p11 := of_decide_eq_false h2
    refine J.exit _ rfl ?_
    refine J.seq ?_
    refine J.seq ?_
    refine J.region ?_
    refine O.p (Pu.move rfl) rfl ?_
    refine O.q (Qt.lenM Tryd.runUnderlying32 rfl (Src.ro 0 rfl)) rfl ?_
    refine O.p (Pu.eql rfl rfl) rfl ?_
    refine O.nil ?_
    refine J.cond rfl (fun h12 => ?_) (fun h12 => ?_)
    ·
      have p13 := of_decide_eq_true h12
      refine J.seq ?_
      refine J.region ?_
      refine O.p (Pu.assign rfl) rfl ?_
      refine O.nil ?_
      exact J.ret (Fin.ret (rs := [.tmp 2]) rfl [_] ⟨rfl, trivial⟩ [] (by decide) [] rfl ⟨(by rw [Dc.lt_nil (by omega)]; rfl), rfl⟩)
    ·
      have p14 := of_decide_eq_false h12
      refine J.skip ?_
      refine J.seq ?_
      refine J.region ?_
      refine O.p (Pu.move rfl) rfl ?_
      refine O.p (Pu.assign rfl) rfl ?_
      refine O.nil ?_
      exact J.ret (Fin.ret (rs := [.tmp 2]) rfl [_] ⟨rfl, trivial⟩ [] (by decide) [] rfl ⟨(by have hk_ : k = l.length := (by omega); rw [Dc.lt_joinU (by omega), ← hk_, ← hst]; rfl), rfl⟩)

set_option maxRecDepth 100000 in
theorem r05_Parts (s : List UInt8) (hs : s.length ≤ 1000000) : Tri Tryd.prog 24 #[str s, .int .u8 44] [] [] (fun v L' => L' = [row v 9 1 ((Lib.split s [44]).map encS)]) := by
  refine Tri.enter (args := [str s, .int .u8 44]) (body := _) 35 Tryd.func24 rfl Tryd.ntmps24 rfl ?_
  intro w0
  refine J.seq ?_
  refine J.region ?_
  refine O.p (Pu.assign rfl) rfl ?_
  refine O.nil ?_
  refine J.seq ?_
  refine J.region ?_
  refine O.p (Pu.assign rfl) rfl ?_
  refine O.nil ?_
  refine J.seq ?_
  refine J.region ?_
  refine O.p (Pu.assign rfl) rfl ?_
  refine O.nil ?_
  refine J.seq ?_
  refine J.seq ?_
  refine J.region ?_
  refine O.p (Pu.assign rfl) rfl ?_
  refine O.nil ?_
  refine J.block ?_
  refine J.nilRow 9 1 ?_
  refine J.loop (X := Nat × Nat × Value × List (List UInt8)) (fun ξ => Dc.PInv s ξ.1 ξ.2.1 ξ.2.2.2) (fun ξ => [(0, str s), (1, .int .u8 44), (4, Value.slice none 0 0), (5, ξ.2.2.1), (6, .int .i64 (ξ.1 : Int)), (7, .int .i64 (ξ.2.1 : Int))]) (fun ξ => [row ξ.2.2.1 9 1 (ξ.2.2.2.map encS)]) (fun ξ => s.length + 1 - ξ.2.1) ⟨0, 0, Value.slice none 0 0, []⟩ (show Dc.PInv s 0 0 ([]) from Dc.pinv_zero) ⟨rfl, rfl, rfl, rfl, (congrArg (fun z => some (Value.int .i64 z)) (by first | rfl | omega : (0 : Int) = (0 : Int))), (congrArg (fun z => some (Value.int .i64 z)) (by first | rfl | omega : (0 : Int) = (0 : Int))), trivial⟩ [0] (by decide) rfl ?_
  rintro ⟨fr, i, V, out⟩ hq1
  have hp : Dc.PInv s fr i out := hq1
  show J _ _ [(0, str s), (1, .int .u8 44), (4, Value.slice none 0 0), (5, V), (6, .int .i64 (fr : Int)), (7, .int .i64 (i : Int))] [row V 9 1 (out.map encS)]
  refine J.seq ?_
  refine J.seq ?_
  refine J.region ?_
  refine O.p (Pu.move rfl) rfl ?_
  refine O.p (Pu.move rfl) rfl ?_
  refine O.p (Pu.sLen Tryd.runUnderlying9 rfl) rfl ?_
  refine O.p (Pu.leq rfl rfl) rfl ?_
  refine O.nil ?_
  refine J.cond rfl (fun h2 => ?_) (fun h2 => ?_)
  ·
    have p3 := of_decide_eq_true h2
    refine J.skip ?_
    refine J.seq ?_
    refine J.block ?_
    refine J.seq ?_
    refine J.region ?_
    refine O.p (Pu.move rfl) rfl ?_
    refine O.p (Pu.move rfl) rfl ?_
    refine O.p (Pu.sLen Tryd.runUnderlying9 rfl) rfl ?_
    refine O.p (Pu.eql rfl rfl) rfl ?_
    refine O.p (Pu.move rfl) rfl ?_
    refine by_bool (decide ((i : Int) = (s.length : Int))) (fun h4 => ?_) (fun h4 => ?_)
    ·
      have p5 := of_decide_eq_true h4
      refine O.gskip (t := 18) rfl rfl (no_bool (by rw [h4]; decide)) rfl rfl ?_
      refine O.gskip (t := 18) rfl rfl (no_bool (by rw [h4]; decide)) rfl rfl ?_
      refine O.gskip (t := 18) rfl rfl (no_bool (by rw [h4]; decide)) rfl rfl ?_
      refine O.gskip (t := 18) rfl rfl (no_bool (by rw [h4]; decide)) rfl rfl ?_
      refine O.gskip (t := 18) rfl rfl (no_bool (by rw [h4]; decide)) rfl rfl ?_
      refine O.p (Pu.pickT rfl h4 rfl) rfl ?_
      refine O.nil ?_
      refine J.condT rfl rfl ?_
      refine J.seq ?_
      refine J.region ?_
      refine O.p (Pu.move rfl) rfl ?_
      refine O.p (Pu.move rfl) rfl ?_
      refine O.p (Pu.move rfl) rfl ?_
      refine O.p (Pu.move rfl) rfl ?_
      refine O.p (Pu.sCut Tryd.runUnderlying9 rfl rfl rfl (by first | omega | (have h_ := Dc.pinv_go hp (by omega); omega) | (have h_ := Dc.pinv_len hp; simp only [List.length_append, List.length_cons, List.length_nil]; omega)) (by first | omega | (have h_ := Dc.pinv_go hp (by omega); omega) | (have h_ := Dc.pinv_len hp; simp only [List.length_append, List.length_cons, List.length_nil]; omega)) (by first | omega | (have h_ := Dc.pinv_go hp (by omega); omega) | (have h_ := Dc.pinv_len hp; simp only [List.length_append, List.length_cons, List.length_nil]; omega))) rfl ?_
      refine O.l (Lo.buildM (s := 1) encS [(s.drop ((fr : Int)).toNat).take (((i : Int)).toNat - ((fr : Int)).toNat)] [(0, str ((s.drop ((fr : Int)).toNat).take (((i : Int)).toNat - ((fr : Int)).toNat)))] (by exact Tryd.runUnderlying48) (by exact Tryd.sizeOf9) (by exact Tryd.zeroValue9) rfl rfl rfl (by kernel_rfl) rfl rfl) rfl ?_
      rintro V6 _ rfl
      refine O.l (Lo.appendM (s := 1) 1 (by exact Tryd.underlying48) (by exact (info9).1) (by exact (info9).2.1) (by exact (info9).2.2.1) (by exact (info9).2.2.2) rfl rfl rfl rfl rfl (Src.row 0 rfl) encS.one (by first | omega | (have h_ := Dc.pinv_go hp (by omega); omega) | (have h_ := Dc.pinv_len hp; simp only [List.length_append, List.length_cons, List.length_nil]; omega)) (by first | omega | (have h_ := Dc.pinv_go hp (by omega); omega) | (have h_ := Dc.pinv_len hp; simp only [List.length_append, List.length_cons, List.length_nil]; omega))) rfl ?_
      rintro V7 _ rfl
      refine O.p (Pu.assign rfl) rfl ?_
      refine O.nil ?_
      refine J.region ?_
      refine O.p (Pu.move rfl) rfl ?_
      refine O.p (Pu.add' rfl rfl (by first | omega | (simp only [List.length_append, List.length_cons, List.length_nil, List.length_set]; omega))) rfl ?_
      refine O.p (Pu.assign rfl) rfl ?_
      refine O.nil ?_
      refine J.blk ?_
      refine J.region ?_
      refine O.p (Pu.move rfl) rfl ?_
      refine O.p (Pu.add' rfl rfl (by first | omega | (simp only [List.length_append, List.length_cons, List.length_nil, List.length_set]; omega))) rfl ?_
      refine O.p (Pu.assign rfl) rfl ?_
      refine O.nil ?_
      exact J.lp ⟨i + 1, i + 1, V7, out ++ ([(s.drop ((fr : Int)).toNat).take (((i : Int)).toNat - ((fr : Int)).toNat)])⟩ (show Dc.PInv s (i + 1) (i + 1) (out ++ ([(s.drop ((fr : Int)).toNat).take (((i : Int)).toNat - ((fr : Int)).toNat)])) from (by first | exact Dc.pinv_last hp (by omega) | exact Dc.pinv_cut hp (by assumption) (by omega) | exact Dc.pinv_next hp (by assumption) (by omega))) (show s.length + 1 - (i + 1) < s.length + 1 - i from (by first | omega | (have h_ := Dc.pinv_go hp (by omega); omega) | (have h_ := Dc.pinv_len hp; simp only [List.length_append, List.length_cons, List.length_nil]; omega))) ⟨rfl, rfl, rfl, rfl, (congrArg (fun z => some (Value.int .i64 z)) (by first | rfl | omega : ((i : Int) + 1 : Int) = ((i + 1) : Int))), (congrArg (fun z => some (Value.int .i64 z)) (by first | rfl | omega : ((i : Int) + 1 : Int) = ((i + 1) : Int))), trivial⟩ [1] (by decide) rfl
    ·
      have p8 := of_decide_eq_false h4
      refine O.gq (t := 18) rfl rfl h4 rfl (Pu.qt (Pu.move rfl)) rfl ?_
      refine O.gq (t := 18) rfl rfl h4 rfl (Pu.qt (Pu.move rfl)) rfl ?_
      obtain ⟨b9, hb10⟩ : ∃ x_, s[((i : Int) : Int).toNat]? = some x_ := ⟨_, List.getElem?_eq_getElem (by first | omega | (have h_ := Dc.pinv_go hp (by omega); omega) | (have h_ := Dc.pinv_len hp; simp only [List.length_append, List.length_cons, List.length_nil]; omega))⟩
      refine O.gq (t := 18) rfl rfl h4 rfl (Pu.qt (Pu.sIdx Tryd.runUnderlying9 rfl rfl (by first | omega | (have h_ := Dc.pinv_go hp (by omega); omega) | (have h_ := Dc.pinv_len hp; simp only [List.length_append, List.length_cons, List.length_nil]; omega)) hb10)) rfl ?_
      refine O.gq (t := 18) rfl rfl h4 rfl (Pu.qt (Pu.move rfl)) rfl ?_
      refine O.gq (t := 18) rfl rfl h4 rfl (Pu.qt (Pu.eql rfl rfl)) rfl ?_
      refine O.p (Pu.pickF rfl h4 rfl) rfl ?_
      refine O.nil ?_
      refine J.cond rfl (fun h11 => ?_) (fun h11 => ?_)
      ·
        have p12 := of_decide_eq_true h11
        refine J.seq ?_
        refine J.region ?_
        refine O.p (Pu.move rfl) rfl ?_
        refine O.p (Pu.move rfl) rfl ?_
        refine O.p (Pu.move rfl) rfl ?_
        refine O.p (Pu.move rfl) rfl ?_
        refine O.p (Pu.sCut Tryd.runUnderlying9 rfl rfl rfl (by first | omega | (have h_ := Dc.pinv_go hp (by omega); omega) | (have h_ := Dc.pinv_len hp; simp only [List.length_append, List.length_cons, List.length_nil]; omega)) (by first | omega | (have h_ := Dc.pinv_go hp (by omega); omega) | (have h_ := Dc.pinv_len hp; simp only [List.length_append, List.length_cons, List.length_nil]; omega)) (by first | omega | (have h_ := Dc.pinv_go hp (by omega); omega) | (have h_ := Dc.pinv_len hp; simp only [List.length_append, List.length_cons, List.length_nil]; omega))) rfl ?_
        refine O.l (Lo.buildM (s := 1) encS [(s.drop ((fr : Int)).toNat).take (((i : Int)).toNat - ((fr : Int)).toNat)] [(0, str ((s.drop ((fr : Int)).toNat).take (((i : Int)).toNat - ((fr : Int)).toNat)))] (by exact Tryd.runUnderlying48) (by exact Tryd.sizeOf9) (by exact Tryd.zeroValue9) rfl rfl rfl (by kernel_rfl) rfl rfl) rfl ?_
        rintro V13 _ rfl
        refine O.l (Lo.appendM (s := 1) 1 (by exact Tryd.underlying48) (by exact (info9).1) (by exact (info9).2.1) (by exact (info9).2.2.1) (by exact (info9).2.2.2) rfl rfl rfl rfl rfl (Src.row 0 rfl) encS.one (by first | omega | (have h_ := Dc.pinv_go hp (by omega); omega) | (have h_ := Dc.pinv_len hp; simp only [List.length_append, List.length_cons, List.length_nil]; omega)) (by first | omega | (have h_ := Dc.pinv_go hp (by omega); omega) | (have h_ := Dc.pinv_len hp; simp only [List.length_append, List.length_cons, List.length_nil]; omega))) rfl ?_
        rintro V14 _ rfl
        refine O.p (Pu.assign rfl) rfl ?_
        refine O.nil ?_
        refine J.region ?_
        refine O.p (Pu.move rfl) rfl ?_
        refine O.p (Pu.add' rfl rfl (by first | omega | (simp only [List.length_append, List.length_cons, List.length_nil, List.length_set]; omega))) rfl ?_
        refine O.p (Pu.assign rfl) rfl ?_
        refine O.nil ?_
        refine J.blk ?_
        refine J.region ?_
        refine O.p (Pu.move rfl) rfl ?_
        refine O.p (Pu.add' rfl rfl (by first | omega | (simp only [List.length_append, List.length_cons, List.length_nil, List.length_set]; omega))) rfl ?_
        refine O.p (Pu.assign rfl) rfl ?_
        refine O.nil ?_
        exact J.lp ⟨i + 1, i + 1, V14, out ++ ([(s.drop ((fr : Int)).toNat).take (((i : Int)).toNat - ((fr : Int)).toNat)])⟩ (show Dc.PInv s (i + 1) (i + 1) (out ++ ([(s.drop ((fr : Int)).toNat).take (((i : Int)).toNat - ((fr : Int)).toNat)])) from (by first | exact Dc.pinv_last hp (by omega) | exact Dc.pinv_cut hp (by assumption) (by omega) | exact Dc.pinv_next hp (by assumption) (by omega))) (show s.length + 1 - (i + 1) < s.length + 1 - i from (by first | omega | (have h_ := Dc.pinv_go hp (by omega); omega) | (have h_ := Dc.pinv_len hp; simp only [List.length_append, List.length_cons, List.length_nil]; omega))) ⟨rfl, rfl, rfl, rfl, (congrArg (fun z => some (Value.int .i64 z)) (by first | rfl | omega : ((i : Int) + 1 : Int) = ((i + 1) : Int))), (congrArg (fun z => some (Value.int .i64 z)) (by first | rfl | omega : ((i : Int) + 1 : Int) = ((i + 1) : Int))), trivial⟩ [1] (by decide) rfl
      ·
        have p15 := of_decide_eq_false h11
        refine J.skip ?_
        refine J.blk ?_
        refine J.region ?_
        refine O.p (Pu.move rfl) rfl ?_
        refine O.p (Pu.add' rfl rfl (by first | omega | (simp only [List.length_append, List.length_cons, List.length_nil, List.length_set]; omega))) rfl ?_
        refine O.p (Pu.assign rfl) rfl ?_
        refine O.nil ?_
        exact J.lp ⟨fr, i + 1, V, out⟩ (show Dc.PInv s fr (i + 1) out from (by first | exact Dc.pinv_last hp (by omega) | exact Dc.pinv_cut hp (by assumption) (by omega) | exact Dc.pinv_next hp (by assumption) (by omega))) (show s.length + 1 - (i + 1) < s.length + 1 - i from (by first | omega | (have h_ := Dc.pinv_go hp (by omega); omega) | (have h_ := Dc.pinv_len hp; simp only [List.length_append, List.length_cons, List.length_nil]; omega))) ⟨rfl, rfl, rfl, rfl, rfl, (congrArg (fun z => some (Value.int .i64 z)) (by first | rfl | omega : ((i : Int) + 1 : Int) = ((i + 1) : Int))), trivial⟩ [0] (by decide) rfl
  ·
    have p16 := of_decide_eq_false h2
    refine J.exit _ rfl ?_
    refine J.seq ?_
    refine J.region ?_
    refine O.p (Pu.move rfl) rfl ?_
    refine O.p (Pu.assign rfl) rfl ?_
    refine O.nil ?_
    exact J.ret (Fin.ret (rs := [.tmp 4]) rfl [_] ⟨rfl, trivial⟩ [0] (by decide) [row V 9 1 (out.map encS)] rfl (congrArg (fun (o : List (List UInt8)) => ([row V 9 1 (o.map encS)] : List Sp)) (Dc.pinv_done hp (by omega))))

end Go.Proofs.YtopemccmejgbpaaDoor
