/-
  Walks, printed by a program of mine (lk.py): each function meets its contract.
-/
import Derived.KernelRfl
import Derived.Test.YtnfkoohgdcocdaaDoorDX1
import Derived.Test.YtnfkoohgdcocdaaDoorWX1
import Derived.Test.YtnfkoohgdcocdaaDoorKnob0
namespace Go.Proofs.YtnfkoohgdcocdaaDoor
open Go Go.LK
set_option linter.unusedSimpArgs false

theorem s_Join (tv : Value) (ts : List (List UInt8)) (hne : ts ≠ []) (hn : ts.length ≤ 100000) (hl : (Lib.join ts [32]).length ≤ 100000000) : Tri Tryd.prog 120 #[tv, str [32]] [rd tv 1 (ts.map encS)] [] (fun v L' => v = str (Lib.join ts [32]) ∧ L' = []) :=
  Tri.lib fun w hro => by
    have he : Elt w tv 1 (ts.map encS) := hro (rd tv 1 (ts.map encS)) (by simp)
    obtain ⟨cap, hv⟩ := he.addr (by simpa using hne)
    obtain ⟨A0, cap0, hv0, hle, _⟩ := he.form
    have hcells := he.cells
    have hcap : ts.length ≤ cap := by
      rw [hv] at hv0
      injection hv0 with h1 h2 h3
      rw [List.length_map] at hle
      omega
    clear he hv0 hle hro
    rw [List.length_map] at hv
    generalize vblk tv = b at hv hcells
    generalize voff tv = o at hv hcells
    subst hv
    have hc : ∀ (j : Nat) x, (ts.map fun t => (⟨t.toArray⟩ : ByteArray))[j]? = some x → w.cell? ⟨b, o + j, none⟩ = some (.string x) := fun j x hx => by
      rw [List.getElem?_map] at hx
      obtain ⟨t, ht, rfl⟩ := Option.map_eq_some_iff.1 hx
      have := hcells j (encS t) 0 (str t) (by rw [List.getElem?_map, ht]; rfl) rfl
      rwa [Nat.mul_one, Nat.add_zero] at this
    have hb : b < w.heap.size := by
      obtain ⟨t, ht⟩ := List.exists_mem_of_ne_nil ts hne
      obtain ⟨j, hj⟩ := List.mem_iff_getElem?.1 ht
      exact cell_lt (hc j ⟨t.toArray⟩ (by rw [List.getElem?_map, hj]; rfl))
    have hmap : (ts.map fun t => (⟨t.toArray⟩ : ByteArray)).map (·.data.toList) = ts := by
      rw [List.map_map]
      show ts.map (fun t => t) = ts
      simp
    have h := Tryd.strings_Join b o cap (ts.map fun t => ⟨t.toArray⟩) ⟨[32].toArray⟩ w hc hb (by rw [List.length_map]; omega) (by rw [List.length_map]; exact hcap) (by rw [hmap]; exact Nat.le_trans hl (by decide))
    rw [hmap, List.length_map] at h
    exact h.mono fun e w' ⟨he, hw⟩ => ⟨he, Frame.of_below hw⟩

set_option maxRecDepth 100000 in
theorem w_Join (lv : Value) (l : List (List UInt8)) (hne : l ≠ []) (hn : l.length ≤ 1000) (hw : ∀ x ∈ l, x.length ≤ 90000) : Tri Tryd.prog 73 #[lv] [rd lv 1 (l.map encS)] [] (fun v L' => v = str (Lib.join l [32]) ∧ L' = []) := by
  refine Tri.enter (args := [lv]) (body := _) 5 Tryd.func73 rfl Tryd.ntmps73 rfl ?_
  intro w0
  refine J.seq ?_
  refine J.region ?_
  refine O.p (Pu.assign rfl) rfl ?_
  refine O.nil ?_
  refine J.seq ?_
  refine J.region ?_
  refine O.p (Pu.move rfl) rfl ?_
  refine O.l (Lo.call [lv, str ([32])] (by exact Tryd.call120) rfl (s_Join lv l hne (by omega) (by have h_ := Wd.join_le l 90000 hw; omega)) [] [] (by decide) rfl _ rfl (RoOk.ro 0 rfl [] rfl RoOk.nil)) rfl ?_
  rintro _ _ ⟨_, ⟨rfl, rfl⟩, rfl⟩
  refine O.p (Pu.assign rfl) rfl ?_
  refine O.nil ?_
  exact J.ret (Fin.ret (rs := [.tmp 2]) rfl [_] ⟨rfl, trivial⟩ [] (by decide) [] rfl ⟨rfl, rfl⟩)

set_option maxRecDepth 100000 in
theorem w_Cut (w : List UInt8) (hw : w.length ≤ 1000000) : Tri Tryd.prog 108 #[str w] [libW] [] (fun v L' => v = .tuple #[str (Wd.cutL w).1, str (Wd.cutL w).2.1, .bool (Wd.cutL w).2.2] ∧ L' = []) := by
  refine Tri.enter (args := [str w]) (body := _) 18 Tryd.func108 rfl Tryd.ntmps108 rfl ?_
  intro w0
  refine J.seq ?_
  refine J.region ?_
  refine O.p (Pu.assign rfl) rfl ?_
  refine O.p (Pu.assign rfl) rfl ?_
  refine O.p (Pu.assign rfl) rfl ?_
  refine O.nil ?_
  refine J.seq ?_
  refine J.region ?_
  refine O.p (Pu.move rfl) rfl ?_
  refine O.l (Lo.call [str w, str ([61])] (by exact Tryd.call130) rfl (s_Cut w ([61]) (by first | omega | (simp only [List.length_append, List.length_cons, List.length_nil, List.length_set]; omega))) [] [] (by decide) rfl _ rfl (RoOk.ro 0 rfl [] rfl RoOk.nil)) rfl ?_
  rintro _ _ ⟨_, ⟨rfl, rfl⟩, rfl⟩
  refine O.p (Pu.move rfl) rfl ?_
  refine O.p (Pu.extract rfl rfl) rfl ?_
  refine O.p (Pu.extract rfl rfl) rfl ?_
  refine O.p (Pu.extract rfl rfl) rfl ?_
  refine O.p (Pu.assign rfl) rfl ?_
  refine O.p (Pu.assign rfl) rfl ?_
  refine O.p (Pu.assign rfl) rfl ?_
  refine O.nil ?_
  refine J.seq ?_
  refine J.seq ?_
  refine J.region ?_
  refine O.p (Pu.move rfl) rfl ?_
  refine O.p (Pu.not rfl) rfl ?_
  refine O.nil ?_
  refine J.cond rfl (fun h2 => ?_) (fun h2 => ?_)
  ·
    have h3 : ((Lib.cut w ([61])).2.2) = false := not_flip h2
    refine J.seq ?_
    refine J.region ?_
    refine O.p (Pu.assign rfl) rfl ?_
    refine O.p (Pu.assign rfl) rfl ?_
    refine O.p (Pu.assign rfl) rfl ?_
    refine O.nil ?_
    exact J.ret (Fin.ret (rs := [.tmp 2, .tmp 3, .tmp 4]) rfl [_, _, _] ⟨rfl, rfl, rfl, trivial⟩ [] (by decide) [] rfl ⟨(by first | (rw [Wd.cutL_no (by assumption)]; rfl) | (rw [Wd.cutL_yes (by assumption)]; rfl)), rfl⟩)
  ·
    have h4 : ((Lib.cut w ([61])).2.2) = true := not_flip h2
    refine J.skip ?_
    refine J.seq ?_
    refine J.region ?_
    refine O.p (Pu.move rfl) rfl ?_
    refine O.p (Pu.move rfl) rfl ?_
    refine O.p (Pu.assign rfl) rfl ?_
    refine O.p (Pu.assign rfl) rfl ?_
    refine O.p (Pu.assign rfl) rfl ?_
    refine O.nil ?_
    exact J.ret (Fin.ret (rs := [.tmp 2, .tmp 3, .tmp 4]) rfl [_, _, _] ⟨rfl, rfl, rfl, trivial⟩ [] (by decide) [] rfl ⟨(by first | (rw [Wd.cutL_no (by assumption)]; rfl) | (rw [Wd.cutL_yes (by assumption)]; rfl)), rfl⟩)

set_option maxRecDepth 100000 in
theorem kn_field (g : Nat) (i : Int) (h0 : 0 ≤ i) (h1 : i < 7) : Tri Tryd.prog 109 #[.pointer (some ⟨g, 0, none⟩), .int .i64 i] [] [] (fun v L' => v = .pointer (some ⟨g, 0 + i.toNat * 1, none⟩) ∧ L' = []) := by
  refine Tri.enter (args := [.pointer (some ⟨g, 0, none⟩), .int .i64 i]) (body := _) 39 Tryd.func109 rfl Tryd.ntmps109 rfl ?_
  intro w0
  refine J.seq ?_
  refine J.region ?_
  refine O.p (Pu.assign rfl) rfl ?_
  refine O.nil ?_
  refine J.seq ?_
  refine J.seq ?_
  refine J.region ?_
  refine O.p (Pu.move rfl) rfl ?_
  refine O.nil ?_
  refine J.block ?_
  refine J.seq ?_
  refine J.region ?_
  refine O.p (Pu.eql rfl rfl) rfl ?_
  refine O.p (Pu.assign rfl) rfl ?_
  refine O.nil ?_
  refine J.cond rfl (fun h1 => ?_) (fun h1 => ?_)
  ·
    have p2 := of_decide_eq_true h1
    refine J.seq ?_
    refine J.region ?_
    refine O.p (Pu.move rfl) rfl ?_
    refine O.p (Pu.nilCheck rfl) rfl ?_
    refine O.p (Pu.fieldAddr (off' := 0) Tryd.runUnderlying50 rfl Tryd.sizeOf3 rfl rfl rfl) rfl ?_
    refine O.p (Pu.assign rfl) rfl ?_
    refine O.nil ?_
    exact J.ret (Fin.ret (rs := [.tmp 4]) rfl [_] ⟨rfl, trivial⟩ [] (by decide) [] rfl ⟨(by have hi_ : i = 0 := (by omega); subst hi_; rfl), rfl⟩)
  ·
    have p3 := of_decide_eq_false h1
    refine J.seq ?_
    refine J.region ?_
    refine O.p (Pu.eql rfl rfl) rfl ?_
    refine O.p (Pu.assign rfl) rfl ?_
    refine O.nil ?_
    refine J.cond rfl (fun h4 => ?_) (fun h4 => ?_)
    ·
      have p5 := of_decide_eq_true h4
      refine J.seq ?_
      refine J.region ?_
      refine O.p (Pu.move rfl) rfl ?_
      refine O.p (Pu.nilCheck rfl) rfl ?_
      refine O.p (Pu.fieldAddr (off' := 1) Tryd.runUnderlying50 rfl Tryd.sizeOf3 rfl rfl rfl) rfl ?_
      refine O.p (Pu.assign rfl) rfl ?_
      refine O.nil ?_
      exact J.ret (Fin.ret (rs := [.tmp 4]) rfl [_] ⟨rfl, trivial⟩ [] (by decide) [] rfl ⟨(by have hi_ : i = 1 := (by omega); subst hi_; rfl), rfl⟩)
    ·
      have p6 := of_decide_eq_false h4
      refine J.seq ?_
      refine J.region ?_
      refine O.p (Pu.eql rfl rfl) rfl ?_
      refine O.p (Pu.assign rfl) rfl ?_
      refine O.nil ?_
      refine J.cond rfl (fun h7 => ?_) (fun h7 => ?_)
      ·
        have p8 := of_decide_eq_true h7
        refine J.seq ?_
        refine J.region ?_
        refine O.p (Pu.move rfl) rfl ?_
        refine O.p (Pu.nilCheck rfl) rfl ?_
        refine O.p (Pu.fieldAddr (off' := 2) Tryd.runUnderlying50 rfl Tryd.sizeOf3 rfl rfl rfl) rfl ?_
        refine O.p (Pu.assign rfl) rfl ?_
        refine O.nil ?_
        exact J.ret (Fin.ret (rs := [.tmp 4]) rfl [_] ⟨rfl, trivial⟩ [] (by decide) [] rfl ⟨(by have hi_ : i = 2 := (by omega); subst hi_; rfl), rfl⟩)
      ·
        have p9 := of_decide_eq_false h7
        refine J.seq ?_
        refine J.region ?_
        refine O.p (Pu.eql rfl rfl) rfl ?_
        refine O.p (Pu.assign rfl) rfl ?_
        refine O.nil ?_
        refine J.cond rfl (fun h10 => ?_) (fun h10 => ?_)
        ·
          have p11 := of_decide_eq_true h10
          refine J.seq ?_
          refine J.region ?_
          refine O.p (Pu.move rfl) rfl ?_
          refine O.p (Pu.nilCheck rfl) rfl ?_
          refine O.p (Pu.fieldAddr (off' := 3) Tryd.runUnderlying50 rfl Tryd.sizeOf3 rfl rfl rfl) rfl ?_
          refine O.p (Pu.assign rfl) rfl ?_
          refine O.nil ?_
          exact J.ret (Fin.ret (rs := [.tmp 4]) rfl [_] ⟨rfl, trivial⟩ [] (by decide) [] rfl ⟨(by have hi_ : i = 3 := (by omega); subst hi_; rfl), rfl⟩)
        ·
          have p12 := of_decide_eq_false h10
          refine J.seq ?_
          refine J.region ?_
          refine O.p (Pu.eql rfl rfl) rfl ?_
          refine O.p (Pu.assign rfl) rfl ?_
          refine O.nil ?_
          refine J.cond rfl (fun h13 => ?_) (fun h13 => ?_)
          ·
            have p14 := of_decide_eq_true h13
            refine J.seq ?_
            refine J.region ?_
            refine O.p (Pu.move rfl) rfl ?_
            refine O.p (Pu.nilCheck rfl) rfl ?_
            refine O.p (Pu.fieldAddr (off' := 4) Tryd.runUnderlying50 rfl Tryd.sizeOf3 rfl rfl rfl) rfl ?_
            refine O.p (Pu.assign rfl) rfl ?_
            refine O.nil ?_
            exact J.ret (Fin.ret (rs := [.tmp 4]) rfl [_] ⟨rfl, trivial⟩ [] (by decide) [] rfl ⟨(by have hi_ : i = 4 := (by omega); subst hi_; rfl), rfl⟩)
          ·
            have p15 := of_decide_eq_false h13
            refine J.seq ?_
            refine J.region ?_
            refine O.p (Pu.eql rfl rfl) rfl ?_
            refine O.p (Pu.assign rfl) rfl ?_
            refine O.nil ?_
            refine J.cond rfl (fun h16 => ?_) (fun h16 => ?_)
            ·
              have p17 := of_decide_eq_true h16
              refine J.seq ?_
              refine J.region ?_
              refine O.p (Pu.move rfl) rfl ?_
              refine O.p (Pu.nilCheck rfl) rfl ?_
              refine O.p (Pu.fieldAddr (off' := 5) Tryd.runUnderlying50 rfl Tryd.sizeOf3 rfl rfl rfl) rfl ?_
              refine O.p (Pu.assign rfl) rfl ?_
              refine O.nil ?_
              exact J.ret (Fin.ret (rs := [.tmp 4]) rfl [_] ⟨rfl, trivial⟩ [] (by decide) [] rfl ⟨(by have hi_ : i = 5 := (by omega); subst hi_; rfl), rfl⟩)
            ·
              have p18 := of_decide_eq_false h16
              refine J.skip ?_
              refine J.blk ?_
              refine J.seq ?_
              refine J.region ?_
              refine O.p (Pu.move rfl) rfl ?_
              refine O.p (Pu.nilCheck rfl) rfl ?_
              refine O.p (Pu.fieldAddr (off' := 6) Tryd.runUnderlying50 rfl Tryd.sizeOf3 rfl rfl rfl) rfl ?_
              refine O.p (Pu.assign rfl) rfl ?_
              refine O.nil ?_
              exact J.ret (Fin.ret (rs := [.tmp 4]) rfl [_] ⟨rfl, trivial⟩ [] (by decide) [] rfl ⟨(by have hi_ : i = 6 := (by omega); subst hi_; rfl), rfl⟩)

set_option maxRecDepth 100000 in
theorem kn_Values (a b c d e f g : Int) : Tri Tryd.prog 59 #[.agg #[.int .i64 a, .int .i64 b, .int .i64 c, .int .i64 d, .int .i64 e, .int .i64 f, .int .i64 g]] [] [] (fun v L' => L' = [row v 3 1 ([a, b, c, d, e, f, g].map encZ)]) := by
  refine Tri.enter (args := [.agg #[.int .i64 a, .int .i64 b, .int .i64 c, .int .i64 d, .int .i64 e, .int .i64 f, .int .i64 g]]) (body := _) 17 Tryd.func59 rfl Tryd.ntmps59 rfl ?_
  intro w0
  refine J.seq ?_
  refine J.region ?_
  refine O.l (Lo.box [.int .i64 a, .int .i64 b, .int .i64 c, .int .i64 d, .int .i64 e, .int .i64 f, .int .i64 g] rfl rfl) rfl ?_
  rintro _ _ ⟨g1, rfl, rfl⟩
  refine O.p (Pu.assign rfl) rfl ?_
  refine O.nil ?_
  refine J.seq ?_
  refine J.region ?_
  refine O.p (Pu.assign rfl) rfl ?_
  refine O.nil ?_
  refine J.seq ?_
  refine J.seq ?_
  refine J.region ?_
  refine O.p (Pu.move rfl) rfl ?_
  refine O.nil ?_
  refine J.block ?_
  refine J.nilRow 3 1 ?_
  refine J.loop (X := Nat × Value) (fun ξ => ξ.1 ≤ 7) (fun ξ => [(1, .pointer (some ⟨g1, 0, none⟩)), (2, Value.slice none 0 0), (3, ξ.2), (5, .int .i64 (ξ.1 : Int))]) (fun ξ => [var g1 [.int .i64 a, .int .i64 b, .int .i64 c, .int .i64 d, .int .i64 e, .int .i64 f, .int .i64 g] 50, row ξ.2 3 1 (([a, b, c, d, e, f, g].take ξ.1).map encZ)]) (fun ξ => 7 - ξ.1) ⟨0, Value.slice none 0 0⟩ (show 0 ≤ 7 from (by omega)) ⟨rfl, rfl, rfl, (congrArg (fun z => some (Value.int .i64 z)) (by first | rfl | omega : (0 : Int) = (0 : Int))), trivial⟩ [1, 0] (by decide) rfl ?_
  rintro ⟨k, V⟩ hq2
  obtain hk : k ≤ 7 := hq2
  show J _ _ [(1, .pointer (some ⟨g1, 0, none⟩)), (2, Value.slice none 0 0), (3, V), (5, .int .i64 (k : Int))] [var g1 [.int .i64 a, .int .i64 b, .int .i64 c, .int .i64 d, .int .i64 e, .int .i64 f, .int .i64 g] 50, row V 3 1 (([a, b, c, d, e, f, g].take k).map encZ)]
  obtain rfl | rfl | rfl | rfl | rfl | rfl | rfl | rfl : k = 0 ∨ k = 1 ∨ k = 2 ∨ k = 3 ∨ k = 4 ∨ k = 5 ∨ k = 6 ∨ k = 7 := by omega
  ·
    show J _ _ [(1, .pointer (some ⟨g1, 0, none⟩)), (2, Value.slice none 0 0), (3, V), (5, .int .i64 0)] [var g1 [.int .i64 a, .int .i64 b, .int .i64 c, .int .i64 d, .int .i64 e, .int .i64 f, .int .i64 g] 50, row V 3 1 (([a, b, c, d, e, f, g].take 0).map encZ)]
    refine J.seq ?_
    refine J.region ?_
    refine O.p (Pu.lss rfl rfl) rfl ?_
    refine O.nil ?_
    refine J.seq ?_
    refine J.condT rfl rfl ?_
    refine J.skip ?_
    refine J.seq ?_
    refine J.block ?_
    refine J.seq ?_
    refine J.region ?_
    refine O.p (Pu.move rfl) rfl ?_
    refine O.p (Pu.assign rfl) rfl ?_
    refine O.nil ?_
    refine J.region ?_
    refine O.p (Pu.move rfl) rfl ?_
    refine O.p (Pu.move rfl) rfl ?_
    refine O.l (Lo.call [.pointer (some ⟨g1, 0, none⟩), .int .i64 0] (by exact Tryd.call109) rfl (kn_field g1 0 (by first | omega | decide | (simp; done)) (by first | omega | decide | (simp; done))) [] [0, 1] (by decide) rfl _ rfl RoOk.nil) rfl ?_
    rintro _ _ ⟨_, ⟨rfl, rfl⟩, rfl⟩
    refine O.p (Pu.nilCheck rfl) rfl ?_
    refine O.q (Qt.ld rfl (Cel.var 0 rfl) (o := 0) (off := 0) rfl (Cut.one Tryd.isAgg3 rfl)) rfl ?_
    refine O.l (Lo.buildM (s := 1) encZ [a] [(0, .int .i64 a)] (by exact Tryd.runUnderlying40) (by exact Tryd.sizeOf3) (by exact Tryd.zeroValue3) rfl rfl rfl (by kernel_rfl) rfl rfl) rfl ?_
    rintro V4 _ rfl
    refine O.l (Lo.appendM (s := 1) 2 (by exact Tryd.underlying40) (by exact (info3).1) (by exact (info3).2.1) (by exact (info3).2.2.1) (by exact (info3).2.2.2) rfl rfl rfl rfl rfl (Src.row 0 rfl) encZ.one (by first | omega | decide | (simp; done)) (by first | omega | decide | (simp; done))) rfl ?_
    rintro V5 _ rfl
    refine O.p (Pu.assign rfl) rfl ?_
    refine O.nil ?_
    refine J.blk ?_
    refine J.region ?_
    refine O.p (Pu.add' rfl rfl (by first | omega | (simp only [List.length_append, List.length_cons, List.length_nil, List.length_set]; omega))) rfl ?_
    refine O.p (Pu.move rfl) rfl ?_
    refine O.nil ?_
    exact J.lp ⟨1, V5⟩ (show 1 ≤ 7 from (by omega)) (show 7 - 1 < 7 - 0 from (by first | omega | decide | (simp; done))) ⟨rfl, rfl, rfl, (congrArg (fun z => some (Value.int .i64 z)) (by first | rfl | omega : (0 + 1 : Int) = (1 : Int))), trivial⟩ [1, 2] (by decide) rfl
  ·
    show J _ _ [(1, .pointer (some ⟨g1, 0, none⟩)), (2, Value.slice none 0 0), (3, V), (5, .int .i64 1)] [var g1 [.int .i64 a, .int .i64 b, .int .i64 c, .int .i64 d, .int .i64 e, .int .i64 f, .int .i64 g] 50, row V 3 1 (([a, b, c, d, e, f, g].take 1).map encZ)]
    refine J.seq ?_
    refine J.region ?_
    refine O.p (Pu.lss rfl rfl) rfl ?_
    refine O.nil ?_
    refine J.seq ?_
    refine J.condT rfl rfl ?_
    refine J.skip ?_
    refine J.seq ?_
    refine J.block ?_
    refine J.seq ?_
    refine J.region ?_
    refine O.p (Pu.move rfl) rfl ?_
    refine O.p (Pu.assign rfl) rfl ?_
    refine O.nil ?_
    refine J.region ?_
    refine O.p (Pu.move rfl) rfl ?_
    refine O.p (Pu.move rfl) rfl ?_
    refine O.l (Lo.call [.pointer (some ⟨g1, 0, none⟩), .int .i64 1] (by exact Tryd.call109) rfl (kn_field g1 1 (by first | omega | decide | (simp; done)) (by first | omega | decide | (simp; done))) [] [0, 1] (by decide) rfl _ rfl RoOk.nil) rfl ?_
    rintro _ _ ⟨_, ⟨rfl, rfl⟩, rfl⟩
    refine O.p (Pu.nilCheck rfl) rfl ?_
    refine O.q (Qt.ld rfl (Cel.var 0 rfl) (o := 0) (off := 1) rfl (Cut.one Tryd.isAgg3 rfl)) rfl ?_
    refine O.l (Lo.buildM (s := 1) encZ [b] [(0, .int .i64 b)] (by exact Tryd.runUnderlying40) (by exact Tryd.sizeOf3) (by exact Tryd.zeroValue3) rfl rfl rfl (by kernel_rfl) rfl rfl) rfl ?_
    rintro V7 _ rfl
    refine O.l (Lo.appendM (s := 1) 2 (by exact Tryd.underlying40) (by exact (info3).1) (by exact (info3).2.1) (by exact (info3).2.2.1) (by exact (info3).2.2.2) rfl rfl rfl rfl rfl (Src.row 0 rfl) encZ.one (by first | omega | decide | (simp; done)) (by first | omega | decide | (simp; done))) rfl ?_
    rintro V8 _ rfl
    refine O.p (Pu.assign rfl) rfl ?_
    refine O.nil ?_
    refine J.blk ?_
    refine J.region ?_
    refine O.p (Pu.add' rfl rfl (by first | omega | (simp only [List.length_append, List.length_cons, List.length_nil, List.length_set]; omega))) rfl ?_
    refine O.p (Pu.move rfl) rfl ?_
    refine O.nil ?_
    exact J.lp ⟨2, V8⟩ (show 2 ≤ 7 from (by omega)) (show 7 - 2 < 7 - 1 from (by first | omega | decide | (simp; done))) ⟨rfl, rfl, rfl, (congrArg (fun z => some (Value.int .i64 z)) (by first | rfl | omega : (1 + 1 : Int) = (2 : Int))), trivial⟩ [1, 2] (by decide) rfl
  ·
    show J _ _ [(1, .pointer (some ⟨g1, 0, none⟩)), (2, Value.slice none 0 0), (3, V), (5, .int .i64 2)] [var g1 [.int .i64 a, .int .i64 b, .int .i64 c, .int .i64 d, .int .i64 e, .int .i64 f, .int .i64 g] 50, row V 3 1 (([a, b, c, d, e, f, g].take 2).map encZ)]
    refine J.seq ?_
    refine J.region ?_
    refine O.p (Pu.lss rfl rfl) rfl ?_
    refine O.nil ?_
    refine J.seq ?_
    refine J.condT rfl rfl ?_
    refine J.skip ?_
    refine J.seq ?_
    refine J.block ?_
    refine J.seq ?_
    refine J.region ?_
    refine O.p (Pu.move rfl) rfl ?_
    refine O.p (Pu.assign rfl) rfl ?_
    refine O.nil ?_
    refine J.region ?_
    refine O.p (Pu.move rfl) rfl ?_
    refine O.p (Pu.move rfl) rfl ?_
    refine O.l (Lo.call [.pointer (some ⟨g1, 0, none⟩), .int .i64 2] (by exact Tryd.call109) rfl (kn_field g1 2 (by first | omega | decide | (simp; done)) (by first | omega | decide | (simp; done))) [] [0, 1] (by decide) rfl _ rfl RoOk.nil) rfl ?_
    rintro _ _ ⟨_, ⟨rfl, rfl⟩, rfl⟩
    refine O.p (Pu.nilCheck rfl) rfl ?_
    refine O.q (Qt.ld rfl (Cel.var 0 rfl) (o := 0) (off := 2) rfl (Cut.one Tryd.isAgg3 rfl)) rfl ?_
    refine O.l (Lo.buildM (s := 1) encZ [c] [(0, .int .i64 c)] (by exact Tryd.runUnderlying40) (by exact Tryd.sizeOf3) (by exact Tryd.zeroValue3) rfl rfl rfl (by kernel_rfl) rfl rfl) rfl ?_
    rintro V10 _ rfl
    refine O.l (Lo.appendM (s := 1) 2 (by exact Tryd.underlying40) (by exact (info3).1) (by exact (info3).2.1) (by exact (info3).2.2.1) (by exact (info3).2.2.2) rfl rfl rfl rfl rfl (Src.row 0 rfl) encZ.one (by first | omega | decide | (simp; done)) (by first | omega | decide | (simp; done))) rfl ?_
    rintro V11 _ rfl
    refine O.p (Pu.assign rfl) rfl ?_
    refine O.nil ?_
    refine J.blk ?_
    refine J.region ?_
    refine O.p (Pu.add' rfl rfl (by first | omega | (simp only [List.length_append, List.length_cons, List.length_nil, List.length_set]; omega))) rfl ?_
    refine O.p (Pu.move rfl) rfl ?_
    refine O.nil ?_
    exact J.lp ⟨3, V11⟩ (show 3 ≤ 7 from (by omega)) (show 7 - 3 < 7 - 2 from (by first | omega | decide | (simp; done))) ⟨rfl, rfl, rfl, (congrArg (fun z => some (Value.int .i64 z)) (by first | rfl | omega : (2 + 1 : Int) = (3 : Int))), trivial⟩ [1, 2] (by decide) rfl
  ·
    show J _ _ [(1, .pointer (some ⟨g1, 0, none⟩)), (2, Value.slice none 0 0), (3, V), (5, .int .i64 3)] [var g1 [.int .i64 a, .int .i64 b, .int .i64 c, .int .i64 d, .int .i64 e, .int .i64 f, .int .i64 g] 50, row V 3 1 (([a, b, c, d, e, f, g].take 3).map encZ)]
    refine J.seq ?_
    refine J.region ?_
    refine O.p (Pu.lss rfl rfl) rfl ?_
    refine O.nil ?_
    refine J.seq ?_
    refine J.condT rfl rfl ?_
    refine J.skip ?_
    refine J.seq ?_
    refine J.block ?_
    refine J.seq ?_
    refine J.region ?_
    refine O.p (Pu.move rfl) rfl ?_
    refine O.p (Pu.assign rfl) rfl ?_
    refine O.nil ?_
    refine J.region ?_
    refine O.p (Pu.move rfl) rfl ?_
    refine O.p (Pu.move rfl) rfl ?_
    refine O.l (Lo.call [.pointer (some ⟨g1, 0, none⟩), .int .i64 3] (by exact Tryd.call109) rfl (kn_field g1 3 (by first | omega | decide | (simp; done)) (by first | omega | decide | (simp; done))) [] [0, 1] (by decide) rfl _ rfl RoOk.nil) rfl ?_
    rintro _ _ ⟨_, ⟨rfl, rfl⟩, rfl⟩
    refine O.p (Pu.nilCheck rfl) rfl ?_
    refine O.q (Qt.ld rfl (Cel.var 0 rfl) (o := 0) (off := 3) rfl (Cut.one Tryd.isAgg3 rfl)) rfl ?_
    refine O.l (Lo.buildM (s := 1) encZ [d] [(0, .int .i64 d)] (by exact Tryd.runUnderlying40) (by exact Tryd.sizeOf3) (by exact Tryd.zeroValue3) rfl rfl rfl (by kernel_rfl) rfl rfl) rfl ?_
    rintro V13 _ rfl
    refine O.l (Lo.appendM (s := 1) 2 (by exact Tryd.underlying40) (by exact (info3).1) (by exact (info3).2.1) (by exact (info3).2.2.1) (by exact (info3).2.2.2) rfl rfl rfl rfl rfl (Src.row 0 rfl) encZ.one (by first | omega | decide | (simp; done)) (by first | omega | decide | (simp; done))) rfl ?_
    rintro V14 _ rfl
    refine O.p (Pu.assign rfl) rfl ?_
    refine O.nil ?_
    refine J.blk ?_
    refine J.region ?_
    refine O.p (Pu.add' rfl rfl (by first | omega | (simp only [List.length_append, List.length_cons, List.length_nil, List.length_set]; omega))) rfl ?_
    refine O.p (Pu.move rfl) rfl ?_
    refine O.nil ?_
    exact J.lp ⟨4, V14⟩ (show 4 ≤ 7 from (by omega)) (show 7 - 4 < 7 - 3 from (by first | omega | decide | (simp; done))) ⟨rfl, rfl, rfl, (congrArg (fun z => some (Value.int .i64 z)) (by first | rfl | omega : (3 + 1 : Int) = (4 : Int))), trivial⟩ [1, 2] (by decide) rfl
  ·
    show J _ _ [(1, .pointer (some ⟨g1, 0, none⟩)), (2, Value.slice none 0 0), (3, V), (5, .int .i64 4)] [var g1 [.int .i64 a, .int .i64 b, .int .i64 c, .int .i64 d, .int .i64 e, .int .i64 f, .int .i64 g] 50, row V 3 1 (([a, b, c, d, e, f, g].take 4).map encZ)]
    refine J.seq ?_
    refine J.region ?_
    refine O.p (Pu.lss rfl rfl) rfl ?_
    refine O.nil ?_
    refine J.seq ?_
    refine J.condT rfl rfl ?_
    refine J.skip ?_
    refine J.seq ?_
    refine J.block ?_
    refine J.seq ?_
    refine J.region ?_
    refine O.p (Pu.move rfl) rfl ?_
    refine O.p (Pu.assign rfl) rfl ?_
    refine O.nil ?_
    refine J.region ?_
    refine O.p (Pu.move rfl) rfl ?_
    refine O.p (Pu.move rfl) rfl ?_
    refine O.l (Lo.call [.pointer (some ⟨g1, 0, none⟩), .int .i64 4] (by exact Tryd.call109) rfl (kn_field g1 4 (by first | omega | decide | (simp; done)) (by first | omega | decide | (simp; done))) [] [0, 1] (by decide) rfl _ rfl RoOk.nil) rfl ?_
    rintro _ _ ⟨_, ⟨rfl, rfl⟩, rfl⟩
    refine O.p (Pu.nilCheck rfl) rfl ?_
    refine O.q (Qt.ld rfl (Cel.var 0 rfl) (o := 0) (off := 4) rfl (Cut.one Tryd.isAgg3 rfl)) rfl ?_
    refine O.l (Lo.buildM (s := 1) encZ [e] [(0, .int .i64 e)] (by exact Tryd.runUnderlying40) (by exact Tryd.sizeOf3) (by exact Tryd.zeroValue3) rfl rfl rfl (by kernel_rfl) rfl rfl) rfl ?_
    rintro V16 _ rfl
    refine O.l (Lo.appendM (s := 1) 2 (by exact Tryd.underlying40) (by exact (info3).1) (by exact (info3).2.1) (by exact (info3).2.2.1) (by exact (info3).2.2.2) rfl rfl rfl rfl rfl (Src.row 0 rfl) encZ.one (by first | omega | decide | (simp; done)) (by first | omega | decide | (simp; done))) rfl ?_
    rintro V17 _ rfl
    refine O.p (Pu.assign rfl) rfl ?_
    refine O.nil ?_
    refine J.blk ?_
    refine J.region ?_
    refine O.p (Pu.add' rfl rfl (by first | omega | (simp only [List.length_append, List.length_cons, List.length_nil, List.length_set]; omega))) rfl ?_
    refine O.p (Pu.move rfl) rfl ?_
    refine O.nil ?_
    exact J.lp ⟨5, V17⟩ (show 5 ≤ 7 from (by omega)) (show 7 - 5 < 7 - 4 from (by first | omega | decide | (simp; done))) ⟨rfl, rfl, rfl, (congrArg (fun z => some (Value.int .i64 z)) (by first | rfl | omega : (4 + 1 : Int) = (5 : Int))), trivial⟩ [1, 2] (by decide) rfl
  ·
    show J _ _ [(1, .pointer (some ⟨g1, 0, none⟩)), (2, Value.slice none 0 0), (3, V), (5, .int .i64 5)] [var g1 [.int .i64 a, .int .i64 b, .int .i64 c, .int .i64 d, .int .i64 e, .int .i64 f, .int .i64 g] 50, row V 3 1 (([a, b, c, d, e, f, g].take 5).map encZ)]
    refine J.seq ?_
    refine J.region ?_
    refine O.p (Pu.lss rfl rfl) rfl ?_
    refine O.nil ?_
    refine J.seq ?_
    refine J.condT rfl rfl ?_
    refine J.skip ?_
    refine J.seq ?_
    refine J.block ?_
    refine J.seq ?_
    refine J.region ?_
    refine O.p (Pu.move rfl) rfl ?_
    refine O.p (Pu.assign rfl) rfl ?_
    refine O.nil ?_
    refine J.region ?_
    refine O.p (Pu.move rfl) rfl ?_
    refine O.p (Pu.move rfl) rfl ?_
    refine O.l (Lo.call [.pointer (some ⟨g1, 0, none⟩), .int .i64 5] (by exact Tryd.call109) rfl (kn_field g1 5 (by first | omega | decide | (simp; done)) (by first | omega | decide | (simp; done))) [] [0, 1] (by decide) rfl _ rfl RoOk.nil) rfl ?_
    rintro _ _ ⟨_, ⟨rfl, rfl⟩, rfl⟩
    refine O.p (Pu.nilCheck rfl) rfl ?_
    refine O.q (Qt.ld rfl (Cel.var 0 rfl) (o := 0) (off := 5) rfl (Cut.one Tryd.isAgg3 rfl)) rfl ?_
    refine O.l (Lo.buildM (s := 1) encZ [f] [(0, .int .i64 f)] (by exact Tryd.runUnderlying40) (by exact Tryd.sizeOf3) (by exact Tryd.zeroValue3) rfl rfl rfl (by kernel_rfl) rfl rfl) rfl ?_
    rintro V19 _ rfl
    refine O.l (Lo.appendM (s := 1) 2 (by exact Tryd.underlying40) (by exact (info3).1) (by exact (info3).2.1) (by exact (info3).2.2.1) (by exact (info3).2.2.2) rfl rfl rfl rfl rfl (Src.row 0 rfl) encZ.one (by first | omega | decide | (simp; done)) (by first | omega | decide | (simp; done))) rfl ?_
    rintro V20 _ rfl
    refine O.p (Pu.assign rfl) rfl ?_
    refine O.nil ?_
    refine J.blk ?_
    refine J.region ?_
    refine O.p (Pu.add' rfl rfl (by first | omega | (simp only [List.length_append, List.length_cons, List.length_nil, List.length_set]; omega))) rfl ?_
    refine O.p (Pu.move rfl) rfl ?_
    refine O.nil ?_
    exact J.lp ⟨6, V20⟩ (show 6 ≤ 7 from (by omega)) (show 7 - 6 < 7 - 5 from (by first | omega | decide | (simp; done))) ⟨rfl, rfl, rfl, (congrArg (fun z => some (Value.int .i64 z)) (by first | rfl | omega : (5 + 1 : Int) = (6 : Int))), trivial⟩ [1, 2] (by decide) rfl
  ·
    show J _ _ [(1, .pointer (some ⟨g1, 0, none⟩)), (2, Value.slice none 0 0), (3, V), (5, .int .i64 6)] [var g1 [.int .i64 a, .int .i64 b, .int .i64 c, .int .i64 d, .int .i64 e, .int .i64 f, .int .i64 g] 50, row V 3 1 (([a, b, c, d, e, f, g].take 6).map encZ)]
    refine J.seq ?_
    refine J.region ?_
    refine O.p (Pu.lss rfl rfl) rfl ?_
    refine O.nil ?_
    refine J.seq ?_
    refine J.condT rfl rfl ?_
    refine J.skip ?_
    refine J.seq ?_
    refine J.block ?_
    refine J.seq ?_
    refine J.region ?_
    refine O.p (Pu.move rfl) rfl ?_
    refine O.p (Pu.assign rfl) rfl ?_
    refine O.nil ?_
    refine J.region ?_
    refine O.p (Pu.move rfl) rfl ?_
    refine O.p (Pu.move rfl) rfl ?_
    refine O.l (Lo.call [.pointer (some ⟨g1, 0, none⟩), .int .i64 6] (by exact Tryd.call109) rfl (kn_field g1 6 (by first | omega | decide | (simp; done)) (by first | omega | decide | (simp; done))) [] [0, 1] (by decide) rfl _ rfl RoOk.nil) rfl ?_
    rintro _ _ ⟨_, ⟨rfl, rfl⟩, rfl⟩
    refine O.p (Pu.nilCheck rfl) rfl ?_
    refine O.q (Qt.ld rfl (Cel.var 0 rfl) (o := 0) (off := 6) rfl (Cut.one Tryd.isAgg3 rfl)) rfl ?_
    refine O.l (Lo.buildM (s := 1) encZ [g] [(0, .int .i64 g)] (by exact Tryd.runUnderlying40) (by exact Tryd.sizeOf3) (by exact Tryd.zeroValue3) rfl rfl rfl (by kernel_rfl) rfl rfl) rfl ?_
    rintro V22 _ rfl
    refine O.l (Lo.appendM (s := 1) 2 (by exact Tryd.underlying40) (by exact (info3).1) (by exact (info3).2.1) (by exact (info3).2.2.1) (by exact (info3).2.2.2) rfl rfl rfl rfl rfl (Src.row 0 rfl) encZ.one (by first | omega | decide | (simp; done)) (by first | omega | decide | (simp; done))) rfl ?_
    rintro V23 _ rfl
    refine O.p (Pu.assign rfl) rfl ?_
    refine O.nil ?_
    refine J.blk ?_
    refine J.region ?_
    refine O.p (Pu.add' rfl rfl (by first | omega | (simp only [List.length_append, List.length_cons, List.length_nil, List.length_set]; omega))) rfl ?_
    refine O.p (Pu.move rfl) rfl ?_
    refine O.nil ?_
    exact J.lp ⟨7, V23⟩ (show 7 ≤ 7 from (by omega)) (show 7 - 7 < 7 - 6 from (by first | omega | decide | (simp; done))) ⟨rfl, rfl, rfl, (congrArg (fun z => some (Value.int .i64 z)) (by first | rfl | omega : (6 + 1 : Int) = (7 : Int))), trivial⟩ [1, 2] (by decide) rfl
  ·
    show J _ _ [(1, .pointer (some ⟨g1, 0, none⟩)), (2, Value.slice none 0 0), (3, V), (5, .int .i64 7)] [var g1 [.int .i64 a, .int .i64 b, .int .i64 c, .int .i64 d, .int .i64 e, .int .i64 f, .int .i64 g] 50, row V 3 1 (([a, b, c, d, e, f, g].take 7).map encZ)]
    refine J.seq ?_
    refine J.region ?_
    refine O.p (Pu.lss rfl rfl) rfl ?_
    refine O.nil ?_
    refine J.seq ?_
    refine J.condF rfl rfl ?_
    refine J.exit _ rfl ?_
    refine J.seq ?_
    refine J.region ?_
    refine O.p (Pu.move rfl) rfl ?_
    refine O.p (Pu.assign rfl) rfl ?_
    refine O.nil ?_
    exact J.ret (Fin.ret (rs := [.tmp 2]) rfl [_] ⟨rfl, trivial⟩ [1] (by decide) [row V 3 1 (([a, b, c, d, e, f, g].take 7).map encZ)] rfl rfl)

set_option maxRecDepth 100000 in
theorem r18_Values (a b c d e f g : Int) : Tri Tryd.prog 60 #[.agg #[.int .i64 a, .int .i64 b, .int .i64 c, .int .i64 d, .int .i64 e, .int .i64 f, .int .i64 g]] [] [] (fun v L' => L' = [row v 3 1 ([a, b, c, d, e, f, g].map encZ)]) := by
  refine Tri.enter (args := [.agg #[.int .i64 a, .int .i64 b, .int .i64 c, .int .i64 d, .int .i64 e, .int .i64 f, .int .i64 g]]) (body := _) 18 Tryd.func60 rfl Tryd.ntmps60 rfl ?_
  intro w0
  refine J.seq ?_
  refine J.region ?_
  refine O.l (Lo.box [.int .i64 a, .int .i64 b, .int .i64 c, .int .i64 d, .int .i64 e, .int .i64 f, .int .i64 g] rfl rfl) rfl ?_
  rintro _ _ ⟨g1, rfl, rfl⟩
  refine O.p (Pu.assign rfl) rfl ?_
  refine O.nil ?_
  refine J.seq ?_
  refine J.region ?_
  refine O.p (Pu.fieldAddr (off' := 0) Tryd.runUnderlying50 rfl Tryd.sizeOf3 rfl rfl rfl) rfl ?_
  refine O.q (Qt.ld rfl (Cel.var 0 rfl) (o := 0) (off := 0) rfl (Cut.one Tryd.isAgg3 rfl)) rfl ?_
  refine O.p (Pu.fieldAddr (off' := 1) Tryd.runUnderlying50 rfl Tryd.sizeOf3 rfl rfl rfl) rfl ?_
  refine O.q (Qt.ld rfl (Cel.var 0 rfl) (o := 0) (off := 1) rfl (Cut.one Tryd.isAgg3 rfl)) rfl ?_
  refine O.p (Pu.fieldAddr (off' := 2) Tryd.runUnderlying50 rfl Tryd.sizeOf3 rfl rfl rfl) rfl ?_
  refine O.q (Qt.ld rfl (Cel.var 0 rfl) (o := 0) (off := 2) rfl (Cut.one Tryd.isAgg3 rfl)) rfl ?_
  refine O.p (Pu.fieldAddr (off' := 3) Tryd.runUnderlying50 rfl Tryd.sizeOf3 rfl rfl rfl) rfl ?_
  refine O.q (Qt.ld rfl (Cel.var 0 rfl) (o := 0) (off := 3) rfl (Cut.one Tryd.isAgg3 rfl)) rfl ?_
  refine O.p (Pu.fieldAddr (off' := 4) Tryd.runUnderlying50 rfl Tryd.sizeOf3 rfl rfl rfl) rfl ?_
  refine O.q (Qt.ld rfl (Cel.var 0 rfl) (o := 0) (off := 4) rfl (Cut.one Tryd.isAgg3 rfl)) rfl ?_
  refine O.p (Pu.fieldAddr (off' := 5) Tryd.runUnderlying50 rfl Tryd.sizeOf3 rfl rfl rfl) rfl ?_
  refine O.q (Qt.ld rfl (Cel.var 0 rfl) (o := 0) (off := 5) rfl (Cut.one Tryd.isAgg3 rfl)) rfl ?_
  refine O.p (Pu.fieldAddr (off' := 6) Tryd.runUnderlying50 rfl Tryd.sizeOf3 rfl rfl rfl) rfl ?_
  refine O.q (Qt.ld rfl (Cel.var 0 rfl) (o := 0) (off := 6) rfl (Cut.one Tryd.isAgg3 rfl)) rfl ?_
  refine O.l (Lo.buildM (s := 1) encZ [a, b, c, d, e, f, g] [(0, .int .i64 a), (1, .int .i64 b), (2, .int .i64 c), (3, .int .i64 d), (4, .int .i64 e), (5, .int .i64 f), (6, .int .i64 g)] (by exact Tryd.runUnderlying40) (by exact Tryd.sizeOf3) (by exact Tryd.zeroValue3) rfl rfl rfl (by kernel_rfl) rfl rfl) rfl ?_
  rintro V2 _ rfl
  refine O.p (Pu.assign rfl) rfl ?_
  refine O.nil ?_
  exact J.ret (Fin.ret (rs := [.tmp 2]) rfl [_] ⟨rfl, trivial⟩ [0] (by decide) [row V2 3 1 (([a, b, c, d, e, f, g]).map encZ)] rfl rfl)

set_option maxRecDepth 100000 in
theorem kn_Names  : Tri Tryd.prog 61 #[] [var 1 (Kn.names.map vS) 131] [] (fun v L' => L' = [row v 9 1 (Kn.names.map encS)]) := by
  refine Tri.enter (args := []) (body := _) 4 Tryd.func61 rfl Tryd.ntmps61 rfl ?_
  intro w0
  refine J.seq ?_
  refine J.region ?_
  refine O.p (Pu.assign rfl) rfl ?_
  refine O.nil ?_
  refine J.seq ?_
  refine J.region ?_
  refine O.l (Lo.buildE encS (by exact Tryd.runUnderlying32) (by exact Tryd.sizeOf9)) rfl ?_
  rintro V1 _ rfl
  refine O.p (Pu.wholeArr Tryd.runUnderlying131 Tryd.sizeOf9 rfl) rfl ?_
  refine O.l (Lo.appendM (s := 1) 0 (by exact Tryd.underlying32) (by exact (info9).1) (by exact (info9).2.1) (by exact (info9).2.2.1) (by exact (info9).2.2.2) rfl rfl rfl rfl rfl (Src.wholeRo 0 rfl (by rfl) (by decide)) encS.one (by decide) (by decide)) rfl ?_
  rintro V2 _ rfl
  refine O.p (Pu.assign rfl) rfl ?_
  refine O.nil ?_
  exact J.ret (Fin.ret (rs := [.tmp 0]) rfl [_] ⟨rfl, trivial⟩ [0] (by decide) [row V2 9 1 ((([] : List (List UInt8)) ++ Kn.names).map encS)] rfl rfl)

set_option maxRecDepth 100000 in
theorem r18_Names  : Tri Tryd.prog 62 #[] [] [] (fun v L' => L' = [row v 9 1 (Kn.names.map encS)]) := by
  refine Tri.enter (args := []) (body := _) 2 Tryd.func62 rfl Tryd.ntmps62 rfl ?_
  intro w0
  refine J.seq ?_
  refine J.region ?_
  refine O.p (Pu.assign rfl) rfl ?_
  refine O.nil ?_
  refine J.seq ?_
  refine J.region ?_
  refine O.l (Lo.buildM (s := 1) encS [[108, 111, 119], [104, 105, 103, 104], [99, 117, 116], [108, 105, 102, 116], [102, 108, 111, 111, 114], [116, 117, 114, 110], [100, 119, 101, 108, 108]] [(0, str ([108, 111, 119])), (1, str ([104, 105, 103, 104])), (2, str ([99, 117, 116])), (3, str ([108, 105, 102, 116])), (4, str ([102, 108, 111, 111, 114])), (5, str ([116, 117, 114, 110])), (6, str ([100, 119, 101, 108, 108]))] (by exact Tryd.runUnderlying32) (by exact Tryd.sizeOf9) (by exact Tryd.zeroValue9) rfl rfl rfl (by kernel_rfl) rfl rfl) rfl ?_
  rintro V1 _ rfl
  refine O.p (Pu.assign rfl) rfl ?_
  refine O.nil ?_
  exact J.ret (Fin.ret (rs := [.tmp 0]) rfl [_] ⟨rfl, trivial⟩ [0] (by decide) [row V1 9 1 (([[108, 111, 119], [104, 105, 103, 104], [99, 117, 116], [108, 105, 102, 116], [102, 108, 111, 111, 114], [116, 117, 114, 110], [100, 119, 101, 108, 108]]).map encS)] rfl rfl)

set_option maxRecDepth 100000 in
theorem kn_Text (a b c d e f g : Int) (hI : Kn.I64s [a, b, c, d, e, f, g]) : Tri Tryd.prog 55 #[.agg #[.int .i64 a, .int .i64 b, .int .i64 c, .int .i64 d, .int .i64 e, .int .i64 f, .int .i64 g]] [libW, var 1 (Kn.names.map vS) 131] [] (fun v L' => v = str (Kn.text [a, b, c, d, e, f, g]) ∧ L' = []) := by
  refine Tri.enter (args := [.agg #[.int .i64 a, .int .i64 b, .int .i64 c, .int .i64 d, .int .i64 e, .int .i64 f, .int .i64 g]]) (body := _) 27 Tryd.func55 rfl Tryd.ntmps55 rfl ?_
  intro w0
  refine J.seq ?_
  refine J.region ?_
  refine O.l (Lo.box [.int .i64 a, .int .i64 b, .int .i64 c, .int .i64 d, .int .i64 e, .int .i64 f, .int .i64 g] rfl rfl) rfl ?_
  rintro _ _ ⟨g1, rfl, rfl⟩
  refine O.p (Pu.assign rfl) rfl ?_
  refine O.nil ?_
  refine J.seq ?_
  refine J.region ?_
  refine O.p (Pu.assign rfl) rfl ?_
  refine O.nil ?_
  refine J.seq ?_
  refine J.seq ?_
  refine J.region ?_
  refine O.q (Qt.ld rfl (Cel.var 0 rfl) (o := 0) (off := 0) rfl (Cut.agg [.int .i64 a, .int .i64 b, .int .i64 c, .int .i64 d, .int .i64 e, .int .i64 f, .int .i64 g] Tryd.isAgg50 Tryd.sizeOf50 rfl rfl)) rfl ?_
  refine O.l (Lo.call [.agg #[.int .i64 a, .int .i64 b, .int .i64 c, .int .i64 d, .int .i64 e, .int .i64 f, .int .i64 g]] (by exact Tryd.call59) rfl (kn_Values a b c d e f g) [] [0] (by decide) rfl _ rfl RoOk.nil) rfl ?_
  rintro v2 _ ⟨_, rfl, rfl⟩
  refine O.q (Qt.lenM Tryd.runUnderlying40 rfl (Src.row 0 rfl)) rfl ?_
  refine O.p (Pu.move rfl) rfl ?_
  refine O.nil ?_
  refine J.block ?_
  refine J.nilRow 9 1 ?_
  refine J.loop (X := Nat × Value × List Wd.Bs) (fun ξ => ξ.1 ≤ 7 ∧ ξ.2.2 = (Kn.wordsOf [a, b, c, d, e, f, g]).take ξ.1) (fun ξ => [(2, str ([] : List UInt8)), (3, ξ.2.1), (7, v2), (8, .int .i64 7), (9, .int .i64 (ξ.1 : Int))]) (fun ξ => [row v2 3 1 (([a, b, c, d, e, f, g]).map encZ), row ξ.2.1 9 1 (ξ.2.2.map encS)]) (fun ξ => 7 - ξ.1) ⟨0, Value.slice none 0 0, []⟩ (show 0 ≤ 7 ∧ ([]) = (Kn.wordsOf [a, b, c, d, e, f, g]).take 0 from ⟨by omega, rfl⟩) ⟨rfl, rfl, rfl, rfl, (congrArg (fun z => some (Value.int .i64 z)) (by first | rfl | omega : (0 : Int) = (0 : Int))), trivial⟩ [1, 0] (by decide) rfl ?_
  rintro ⟨k, V, out⟩ hq3
  obtain ⟨hk, hout⟩ : k ≤ 7 ∧ out = (Kn.wordsOf [a, b, c, d, e, f, g]).take k := hq3
  show J _ _ [(2, str ([] : List UInt8)), (3, V), (7, v2), (8, .int .i64 7), (9, .int .i64 (k : Int))] [row v2 3 1 (([a, b, c, d, e, f, g]).map encZ), row V 9 1 (out.map encS)]
  refine J.seq ?_
  refine J.region ?_
  refine O.p (Pu.lss rfl rfl) rfl ?_
  refine O.nil ?_
  refine J.seq ?_
  refine J.cond rfl (fun h4 => ?_) (fun h4 => ?_)
  ·
    have p5 := of_decide_eq_true h4
    refine J.skip ?_
    refine J.seq ?_
    refine J.block ?_
    refine J.seq ?_
    refine J.region ?_
    refine O.p (Pu.move rfl) rfl ?_
    obtain ⟨e6, he6⟩ : ∃ x_, ([a, b, c, d, e, f, g])[k]? = some x_ := ⟨_, List.getElem?_eq_getElem (by first | omega | (simp only [List.length_cons, List.length_nil]; omega) | (have hx_ := hI _ (List.mem_of_getElem? (by assumption)); unfold Dc.I64 at hx_; omega) | (have ho_ := congrArg List.length hout; rw [List.length_take] at ho_; simp only [List.length_append, List.length_cons, List.length_nil]; omega) | (have h2_ : Kn.names.length = 7 := rfl; omega))⟩
    refine O.q (Qt.idxM Tryd.runUnderlying40 Tryd.sizeOf3 rfl (Src.row 0 rfl) rfl (by first | omega | (simp only [List.length_cons, List.length_nil]; omega) | (have hx_ := hI _ (List.mem_of_getElem? (by assumption)); unfold Dc.I64 at hx_; omega) | (have ho_ := congrArg List.length hout; rw [List.length_take] at ho_; simp only [List.length_append, List.length_cons, List.length_nil]; omega) | (have h2_ : Kn.names.length = 7 := rfl; omega)) (by first | omega | (simp only [List.length_cons, List.length_nil]; omega) | (have hx_ := hI _ (List.mem_of_getElem? (by assumption)); unfold Dc.I64 at hx_; omega) | (have ho_ := congrArg List.length hout; rw [List.length_take] at ho_; simp only [List.length_append, List.length_cons, List.length_nil]; omega) | (have h2_ : Kn.names.length = 7 := rfl; omega))) rfl ?_
    refine O.q (Qt.ld rfl (Cel.eltM (Src.row 0 rfl) he6) (o := (voff v2 + k * 1)) (off := 0) (by omega) (Cut.one Tryd.isAgg3 rfl)) rfl ?_
    refine O.p (Pu.assign rfl) rfl ?_
    refine O.p (Pu.assign rfl) rfl ?_
    refine O.nil ?_
    refine J.drawMix [(0, false), (1, false), (2, false), (3, false), (4, false), (5, false), (6, false), (7, false), (8, true), (9, true), (10, false)] [] [] Tryd.mixed (by kernel_rfl) (by decide) rfl ?_
    refine Mx.p rfl (Pu.move rfl) rfl ?_
    refine Mx.p rfl (Pu.move rfl) rfl ?_
    obtain ⟨e7, he8⟩ : ∃ x_, Kn.names[((k : Int)).toNat]? = some x_ := ⟨_, List.getElem?_eq_getElem (by first | omega | (simp only [List.length_cons, List.length_nil]; omega) | (have hx_ := hI _ (List.mem_of_getElem? (by assumption)); unfold Dc.I64 at hx_; omega) | (have ho_ := congrArg List.length hout; rw [List.length_take] at ho_; simp only [List.length_append, List.length_cons, List.length_nil]; omega) | (have h2_ : Kn.names.length = 7 := rfl; omega))⟩
    refine Mx.p rfl (Pu.indexAddrG Tryd.runUnderlying131 Tryd.sizeOf9 rfl rfl (by first | omega | (simp only [List.length_cons, List.length_nil]; omega) | (have hx_ := hI _ (List.mem_of_getElem? (by assumption)); unfold Dc.I64 at hx_; omega) | (have ho_ := congrArg List.length hout; rw [List.length_take] at ho_; simp only [List.length_append, List.length_cons, List.length_nil]; omega) | (have h2_ : Kn.names.length = 7 := rfl; omega)) (by first | omega | (simp only [List.length_cons, List.length_nil]; omega) | (have hx_ := hI _ (List.mem_of_getElem? (by assumption)); unfold Dc.I64 at hx_; omega) | (have ho_ := congrArg List.length hout; rw [List.length_take] at ho_; simp only [List.length_append, List.length_cons, List.length_nil]; omega) | (have h2_ : Kn.names.length = 7 := rfl; omega))) rfl ?_
    refine Mx.q rfl (Qt.ld rfl (Cel.roVar 1 rfl) (o := 0) (off := ((k : Int)).toNat) (by omega) (Cut.one Tryd.isAgg9 (at_map he8))) rfl ?_
    refine Mx.p rfl (Pu.sAdd rfl rfl (by have h1_ := Kn.names_len _ (List.mem_of_getElem? (by assumption)); first | (simp only [List.length_append, List.length_cons, List.length_nil]; omega) | (have h2_ := Wd.itoa_le2 (hI _ (List.mem_of_getElem? (by assumption))); simp only [List.length_append, List.length_cons, List.length_nil]; omega))) rfl ?_
    refine Mx.p rfl (Pu.move rfl) rfl ?_
    refine Mx.call (vs := [.int .i64 e6]) (caps := []) rfl (by exact Tryd.call72) rfl rfl (dec_Text e6 (by first | omega | (simp only [List.length_cons, List.length_nil]; omega) | (have hx_ := hI _ (List.mem_of_getElem? (by assumption)); unfold Dc.I64 at hx_; omega) | (have ho_ := congrArg List.length hout; rw [List.length_take] at ho_; simp only [List.length_append, List.length_cons, List.length_nil]; omega) | (have h2_ : Kn.names.length = 7 := rfl; omega)) (by first | omega | (simp only [List.length_cons, List.length_nil]; omega) | (have hx_ := hI _ (List.mem_of_getElem? (by assumption)); unfold Dc.I64 at hx_; omega) | (have ho_ := congrArg List.length hout; rw [List.length_take] at ho_; simp only [List.length_append, List.length_cons, List.length_nil]; omega) | (have h2_ : Kn.names.length = 7 := rfl; omega))) (fun _ _ h => h) (RoOk.ro 0 rfl [] rfl RoOk.nil) rfl ?_
    refine Mx.p rfl (Pu.sAdd rfl rfl (by have h1_ := Kn.names_len _ (List.mem_of_getElem? (by assumption)); first | (simp only [List.length_append, List.length_cons, List.length_nil]; omega) | (have h2_ := Wd.itoa_le2 (hI _ (List.mem_of_getElem? (by assumption))); simp only [List.length_append, List.length_cons, List.length_nil]; omega))) rfl ?_
    refine Mx.l rfl (Lo.buildM (s := 1) encS [(e7 ++ ([61])) ++ (Lib.itoa e6)] [(0, str ((e7 ++ ([61])) ++ (Lib.itoa e6)))] (by exact Tryd.runUnderlying32) (by exact Tryd.sizeOf9) (by exact Tryd.zeroValue9) rfl rfl rfl (by kernel_rfl) rfl rfl) rfl ?_
    rintro V9 _ rfl
    refine MxK.go [] [] [] (by decide) rfl (by decide) rfl ?_
    refine Mx.l rfl (Lo.appendM (s := 1) 2 (by exact Tryd.underlying32) (by exact (info9).1) (by exact (info9).2.1) (by exact (info9).2.2.1) (by exact (info9).2.2.2) rfl rfl rfl rfl rfl (Src.row 0 rfl) encS.one (by first | omega | (simp only [List.length_cons, List.length_nil]; omega) | (have hx_ := hI _ (List.mem_of_getElem? (by assumption)); unfold Dc.I64 at hx_; omega) | (have ho_ := congrArg List.length hout; rw [List.length_take] at ho_; simp only [List.length_append, List.length_cons, List.length_nil]; omega) | (have h2_ : Kn.names.length = 7 := rfl; omega)) (by first | omega | (simp only [List.length_cons, List.length_nil]; omega) | (have hx_ := hI _ (List.mem_of_getElem? (by assumption)); unfold Dc.I64 at hx_; omega) | (have ho_ := congrArg List.length hout; rw [List.length_take] at ho_; simp only [List.length_append, List.length_cons, List.length_nil]; omega) | (have h2_ : Kn.names.length = 7 := rfl; omega))) rfl ?_
    rintro V10 _ rfl
    refine MxK.go [] [] [] (by decide) rfl (by decide) rfl ?_
    refine Mx.p rfl (Pu.assign rfl) rfl ?_
    refine Mx.nil ?_
    refine J.blk ?_
    refine J.region ?_
    refine O.p (Pu.add' rfl rfl (by first | omega | (simp only [List.length_append, List.length_cons, List.length_nil, List.length_set]; omega))) rfl ?_
    refine O.p (Pu.move rfl) rfl ?_
    refine O.nil ?_
    exact J.lp ⟨k + 1, V10, out ++ ([(e7 ++ ([61])) ++ (Lib.itoa e6)])⟩ (show (k + 1) ≤ 7 ∧ (out ++ ([(e7 ++ ([61])) ++ (Lib.itoa e6)])) = (Kn.wordsOf [a, b, c, d, e, f, g]).take (k + 1) from ⟨by omega, (by rw [hout]; exact (Kn.wordsOf_next he8 he6).symm)⟩) (show 7 - (k + 1) < 7 - k from (by first | omega | (simp only [List.length_cons, List.length_nil]; omega) | (have hx_ := hI _ (List.mem_of_getElem? (by assumption)); unfold Dc.I64 at hx_; omega) | (have ho_ := congrArg List.length hout; rw [List.length_take] at ho_; simp only [List.length_append, List.length_cons, List.length_nil]; omega) | (have h2_ : Kn.names.length = 7 := rfl; omega))) ⟨rfl, rfl, rfl, rfl, (congrArg (fun z => some (Value.int .i64 z)) (by first | rfl | omega : ((k : Int) + 1 : Int) = ((k + 1) : Int))), trivial⟩ [1, 2] (by decide) rfl
  ·
    have p11 := of_decide_eq_false h4
    refine J.exit _ rfl ?_
    refine J.seq ?_
    refine J.region ?_
    refine O.p (Pu.move rfl) rfl ?_
    refine O.l (Lo.call [V] (by exact Tryd.call73) rfl (w_Join V out (by intro h_; have ho_ := congrArg List.length hout; rw [List.length_take] at ho_; rw [h_, Kn.wordsOf_len rfl, List.length_nil] at ho_; omega) (by have ho_ := congrArg List.length hout; rw [List.length_take] at ho_; omega) (by intro x_ hx_; rw [hout] at hx_; have h_ := Kn.wordsOf_le hI x_ (List.mem_of_mem_take hx_); omega)) [] [0, 1] (by decide) rfl _ rfl (RoOk.of 1 rfl row_rd [] (by decide) rfl RoOk.nil)) rfl ?_
    rintro _ _ ⟨_, ⟨rfl, rfl⟩, rfl⟩
    refine O.p (Pu.assign rfl) rfl ?_
    refine O.nil ?_
    exact J.ret (Fin.ret (rs := [.tmp 2]) rfl [_] ⟨rfl, trivial⟩ [] (by decide) [] rfl ⟨(by rw [hout, List.take_of_length_le (by rw [Kn.wordsOf_len rfl]; omega)]; rfl), rfl⟩)

set_option maxRecDepth 100000 in
theorem r18_Text (a b c d e f g : Int) (hI : Kn.I64s [a, b, c, d, e, f, g]) : Tri Tryd.prog 56 #[.agg #[.int .i64 a, .int .i64 b, .int .i64 c, .int .i64 d, .int .i64 e, .int .i64 f, .int .i64 g]] [] [] (fun v L' => v = str (Kn.text [a, b, c, d, e, f, g]) ∧ L' = []) := by
  refine Tri.enter (args := [.agg #[.int .i64 a, .int .i64 b, .int .i64 c, .int .i64 d, .int .i64 e, .int .i64 f, .int .i64 g]]) (body := _) 32 Tryd.func56 rfl Tryd.ntmps56 rfl ?_
  intro w0
  refine J.seq ?_
  refine J.region ?_
  refine O.l (Lo.box [.int .i64 a, .int .i64 b, .int .i64 c, .int .i64 d, .int .i64 e, .int .i64 f, .int .i64 g] rfl rfl) rfl ?_
  rintro _ _ ⟨g1, rfl, rfl⟩
  refine O.p (Pu.assign rfl) rfl ?_
  refine O.nil ?_
  refine J.seq ?_
  refine J.region ?_
  refine O.p (Pu.assign rfl) rfl ?_
  refine O.nil ?_
  refine J.seq ?_
  refine J.drawMix [(1, false), (0, true), (2, true), (3, false), (4, false)] [0] [var g1 [.int .i64 a, .int .i64 b, .int .i64 c, .int .i64 d, .int .i64 e, .int .i64 f, .int .i64 g] 50] Tryd.mixed (by kernel_rfl) (by decide) rfl ?_
  refine Mx.q rfl (Qt.ld rfl (Cel.var 0 rfl) (o := 0) (off := 0) rfl (Cut.agg [.int .i64 a, .int .i64 b, .int .i64 c, .int .i64 d, .int .i64 e, .int .i64 f, .int .i64 g] Tryd.isAgg50 Tryd.sizeOf50 rfl rfl)) rfl ?_
  refine Mx.l rfl (Lo.call [] (by exact Tryd.call62) rfl r18_Names [] [0] (by decide) rfl _ rfl RoOk.nil) rfl ?_
  rintro v2 _ ⟨_, rfl, rfl⟩
  refine MxK.go [1] [0] [var g1 [.int .i64 a, .int .i64 b, .int .i64 c, .int .i64 d, .int .i64 e, .int .i64 f, .int .i64 g] 50] (by decide) rfl (by decide) rfl ?_
  refine Mx.l rfl (Lo.call [.agg #[.int .i64 a, .int .i64 b, .int .i64 c, .int .i64 d, .int .i64 e, .int .i64 f, .int .i64 g]] (by exact Tryd.call60) rfl (r18_Values a b c d e f g) [] [0, 1] (by decide) rfl _ rfl RoOk.nil) rfl ?_
  rintro v3 _ ⟨_, rfl, rfl⟩
  refine MxK.all [2] [var g1 [.int .i64 a, .int .i64 b, .int .i64 c, .int .i64 d, .int .i64 e, .int .i64 f, .int .i64 g] 50] (by decide) rfl (by kernel_rfl) ?_
  refine Mx.p rfl (Pu.assign rfl) rfl ?_
  refine Mx.p rfl (Pu.assign rfl) rfl ?_
  refine Mx.nil ?_
  refine J.seq ?_
  refine J.seq ?_
  refine J.region ?_
  refine O.p (Pu.assign rfl) rfl ?_
  refine O.nil ?_
  refine J.block ?_
  refine J.loop (X := Nat × Wd.Bs) (fun ξ => ξ.1 ≤ 7 ∧ ξ.2 = Kn.textK [a, b, c, d, e, f, g] ξ.1) (fun ξ => [(2, str ([] : List UInt8)), (3, str ξ.2), (4, v2), (5, v3), (6, .int .i64 (ξ.1 : Int))]) (fun ξ => [row v2 9 1 (Kn.names.map encS), row v3 3 1 (([a, b, c, d, e, f, g]).map encZ)]) (fun ξ => 7 - ξ.1) ⟨0, []⟩ (show 0 ≤ 7 ∧ ([]) = Kn.textK [a, b, c, d, e, f, g] 0 from ⟨by omega, rfl⟩) ⟨rfl, rfl, rfl, rfl, (congrArg (fun z => some (Value.int .i64 z)) (by first | rfl | omega : (0 : Int) = (0 : Int))), trivial⟩ [1, 0] (by decide) rfl ?_
  rintro ⟨k, t⟩ hq4
  obtain ⟨hk, ht⟩ : k ≤ 7 ∧ t = Kn.textK [a, b, c, d, e, f, g] k := hq4
  show J _ _ [(2, str ([] : List UInt8)), (3, str t), (4, v2), (5, v3), (6, .int .i64 (k : Int))] [row v2 9 1 (Kn.names.map encS), row v3 3 1 (([a, b, c, d, e, f, g]).map encZ)]
  refine J.seq ?_
  refine J.seq ?_
  refine J.region ?_
  refine O.p (Pu.move rfl) rfl ?_
  refine O.p (Pu.lss rfl rfl) rfl ?_
  refine O.nil ?_
  refine J.cond rfl (fun h5 => ?_) (fun h5 => ?_)
  ·
    have p6 := of_decide_eq_true h5
    refine J.skip ?_
    refine J.seq ?_
    refine J.block ?_
    refine J.seq ?_
    refine J.seq ?_
    refine J.region ?_
    refine O.p (Pu.move rfl) rfl ?_
    refine O.p (Pu.gtr rfl rfl) rfl ?_
    refine O.nil ?_
    refine J.cond rfl (fun h7 => ?_) (fun h7 => ?_)
    ·
      have p8 := of_decide_eq_true h7
      refine J.region ?_
      refine O.p (Pu.move rfl) rfl ?_
      refine O.p (Pu.sAdd rfl rfl (by have h_ := Kn.textK_len hI k; rw [← ht] at h_; first | (simp only [List.length_append, List.length_cons, List.length_nil]; omega) | (have h1_ := Kn.names_len _ (List.mem_of_getElem? (by assumption)); first | (simp only [List.length_append, List.length_cons, List.length_nil]; omega) | (have h2_ := Wd.itoa_le2 (hI _ (List.mem_of_getElem? (by assumption))); simp only [List.length_append, List.length_cons, List.length_nil]; omega) | omega) )) rfl ?_
      refine O.p (Pu.assign rfl) rfl ?_
      refine O.nil ?_
      refine J.drawHead 13 Tryd.mixed (by kernel_rfl) ?_
      refine Hd.p (Pu.move rfl) rfl ?_
      refine Hd.p (Pu.move rfl) rfl ?_
      refine Hd.p (Pu.move rfl) rfl ?_
      obtain ⟨e9, he9⟩ : ∃ x_, Kn.names[k]? = some x_ := ⟨_, List.getElem?_eq_getElem (by first | omega | (have h2_ : Kn.names.length = 7 := rfl; omega) | (simp only [List.length_cons, List.length_nil]; omega))⟩
      refine Hd.q (Qt.idxM Tryd.runUnderlying32 Tryd.sizeOf9 rfl (Src.row 0 rfl) rfl (by first | omega | (have h2_ : Kn.names.length = 7 := rfl; omega) | (simp only [List.length_cons, List.length_nil]; omega)) (by first | omega | (have h2_ : Kn.names.length = 7 := rfl; omega) | (simp only [List.length_cons, List.length_nil]; omega))) rfl ?_
      refine Hd.q (Qt.ld rfl (Cel.eltM (Src.row 0 rfl) he9) (o := (voff v2 + k * 1)) (off := 0) (by omega) (Cut.one Tryd.isAgg9 rfl)) rfl ?_
      refine Hd.p (Pu.sAdd rfl rfl (by have h_ := Kn.textK_len hI k; rw [← ht] at h_; first | (simp only [List.length_append, List.length_cons, List.length_nil]; omega) | (have h1_ := Kn.names_len _ (List.mem_of_getElem? (by assumption)); first | (simp only [List.length_append, List.length_cons, List.length_nil]; omega) | (have h2_ := Wd.itoa_le2 (hI _ (List.mem_of_getElem? (by assumption))); simp only [List.length_append, List.length_cons, List.length_nil]; omega) | omega) )) rfl ?_
      refine Hd.p (Pu.sAdd rfl rfl (by have h_ := Kn.textK_len hI k; rw [← ht] at h_; first | (simp only [List.length_append, List.length_cons, List.length_nil]; omega) | (have h1_ := Kn.names_len _ (List.mem_of_getElem? (by assumption)); first | (simp only [List.length_append, List.length_cons, List.length_nil]; omega) | (have h2_ := Wd.itoa_le2 (hI _ (List.mem_of_getElem? (by assumption))); simp only [List.length_append, List.length_cons, List.length_nil]; omega) | omega) )) rfl ?_
      refine Hd.p (Pu.move rfl) rfl ?_
      refine Hd.p (Pu.move rfl) rfl ?_
      obtain ⟨e10, he10⟩ : ∃ x_, ([a, b, c, d, e, f, g])[k]? = some x_ := ⟨_, List.getElem?_eq_getElem (by first | omega | (have h2_ : Kn.names.length = 7 := rfl; omega) | (simp only [List.length_cons, List.length_nil]; omega))⟩
      refine Hd.q (Qt.idxM Tryd.runUnderlying40 Tryd.sizeOf3 rfl (Src.row 1 rfl) rfl (by first | omega | (have h2_ : Kn.names.length = 7 := rfl; omega) | (simp only [List.length_cons, List.length_nil]; omega)) (by first | omega | (have h2_ : Kn.names.length = 7 := rfl; omega) | (simp only [List.length_cons, List.length_nil]; omega))) rfl ?_
      refine Hd.q (Qt.ld rfl (Cel.eltM (Src.row 1 rfl) he10) (o := (voff v3 + k * 1)) (off := 0) (by omega) (Cut.one Tryd.isAgg3 rfl)) rfl ?_
      refine Hd.call (vs := [.int .i64 e10]) (caps := []) (by exact Tryd.call76) rfl rfl (r05_Text e10 (by exact hI _ (List.mem_of_getElem? (by assumption)))) (fun _ _ h => h) RoOk.nil rfl ?_
      refine Hd.p (Pu.sAdd rfl rfl (by have h_ := Kn.textK_len hI k; rw [← ht] at h_; first | (simp only [List.length_append, List.length_cons, List.length_nil]; omega) | (have h1_ := Kn.names_len _ (List.mem_of_getElem? (by assumption)); first | (simp only [List.length_append, List.length_cons, List.length_nil]; omega) | (have h2_ := Wd.itoa_le2 (hI _ (List.mem_of_getElem? (by assumption))); simp only [List.length_append, List.length_cons, List.length_nil]; omega) | omega) )) rfl ?_
      refine Hd.nil ?_
      refine O.p (Pu.assign rfl) rfl ?_
      refine O.nil ?_
      refine J.blk ?_
      refine J.region ?_
      refine O.p (Pu.move rfl) rfl ?_
      refine O.p (Pu.add' rfl rfl (by first | omega | (simp only [List.length_append, List.length_cons, List.length_nil, List.length_set]; omega))) rfl ?_
      refine O.p (Pu.assign rfl) rfl ?_
      refine O.nil ?_
      exact J.lp ⟨k + 1, (((t ++ ([32])) ++ e9) ++ ([61])) ++ (Lib.itoa e10)⟩ (show (k + 1) ≤ 7 ∧ ((((t ++ ([32])) ++ e9) ++ ([61])) ++ (Lib.itoa e10)) = Kn.textK [a, b, c, d, e, f, g] (k + 1) from ⟨by omega, (by rw [Kn.textK_next he9 he10]; first | (rw [if_neg (by omega), ← ht]; done) | (rw [if_pos (by omega), ht]; have hk_ : k = 0 := (by omega); subst hk_; rfl))⟩) (show 7 - (k + 1) < 7 - k from (by first | omega | (have h2_ : Kn.names.length = 7 := rfl; omega) | (simp only [List.length_cons, List.length_nil]; omega))) ⟨rfl, rfl, rfl, rfl, (congrArg (fun z => some (Value.int .i64 z)) (by first | rfl | omega : ((k : Int) + 1 : Int) = ((k + 1) : Int))), trivial⟩ [0, 1] (by decide) rfl
    ·
      have p11 := of_decide_eq_false h7
      refine J.skip ?_
      refine J.drawHead 13 Tryd.mixed (by kernel_rfl) ?_
      refine Hd.p (Pu.move rfl) rfl ?_
      refine Hd.p (Pu.move rfl) rfl ?_
      refine Hd.p (Pu.move rfl) rfl ?_
      obtain ⟨e12, he12⟩ : ∃ x_, Kn.names[k]? = some x_ := ⟨_, List.getElem?_eq_getElem (by first | omega | (have h2_ : Kn.names.length = 7 := rfl; omega) | (simp only [List.length_cons, List.length_nil]; omega))⟩
      refine Hd.q (Qt.idxM Tryd.runUnderlying32 Tryd.sizeOf9 rfl (Src.row 0 rfl) rfl (by first | omega | (have h2_ : Kn.names.length = 7 := rfl; omega) | (simp only [List.length_cons, List.length_nil]; omega)) (by first | omega | (have h2_ : Kn.names.length = 7 := rfl; omega) | (simp only [List.length_cons, List.length_nil]; omega))) rfl ?_
      refine Hd.q (Qt.ld rfl (Cel.eltM (Src.row 0 rfl) he12) (o := (voff v2 + k * 1)) (off := 0) (by omega) (Cut.one Tryd.isAgg9 rfl)) rfl ?_
      refine Hd.p (Pu.sAdd rfl rfl (by have h_ := Kn.textK_len hI k; rw [← ht] at h_; first | (simp only [List.length_append, List.length_cons, List.length_nil]; omega) | (have h1_ := Kn.names_len _ (List.mem_of_getElem? (by assumption)); first | (simp only [List.length_append, List.length_cons, List.length_nil]; omega) | (have h2_ := Wd.itoa_le2 (hI _ (List.mem_of_getElem? (by assumption))); simp only [List.length_append, List.length_cons, List.length_nil]; omega) | omega) )) rfl ?_
      refine Hd.p (Pu.sAdd rfl rfl (by have h_ := Kn.textK_len hI k; rw [← ht] at h_; first | (simp only [List.length_append, List.length_cons, List.length_nil]; omega) | (have h1_ := Kn.names_len _ (List.mem_of_getElem? (by assumption)); first | (simp only [List.length_append, List.length_cons, List.length_nil]; omega) | (have h2_ := Wd.itoa_le2 (hI _ (List.mem_of_getElem? (by assumption))); simp only [List.length_append, List.length_cons, List.length_nil]; omega) | omega) )) rfl ?_
      refine Hd.p (Pu.move rfl) rfl ?_
      refine Hd.p (Pu.move rfl) rfl ?_
      obtain ⟨e13, he13⟩ : ∃ x_, ([a, b, c, d, e, f, g])[k]? = some x_ := ⟨_, List.getElem?_eq_getElem (by first | omega | (have h2_ : Kn.names.length = 7 := rfl; omega) | (simp only [List.length_cons, List.length_nil]; omega))⟩
      refine Hd.q (Qt.idxM Tryd.runUnderlying40 Tryd.sizeOf3 rfl (Src.row 1 rfl) rfl (by first | omega | (have h2_ : Kn.names.length = 7 := rfl; omega) | (simp only [List.length_cons, List.length_nil]; omega)) (by first | omega | (have h2_ : Kn.names.length = 7 := rfl; omega) | (simp only [List.length_cons, List.length_nil]; omega))) rfl ?_
      refine Hd.q (Qt.ld rfl (Cel.eltM (Src.row 1 rfl) he13) (o := (voff v3 + k * 1)) (off := 0) (by omega) (Cut.one Tryd.isAgg3 rfl)) rfl ?_
      refine Hd.call (vs := [.int .i64 e13]) (caps := []) (by exact Tryd.call76) rfl rfl (r05_Text e13 (by exact hI _ (List.mem_of_getElem? (by assumption)))) (fun _ _ h => h) RoOk.nil rfl ?_
      refine Hd.p (Pu.sAdd rfl rfl (by have h_ := Kn.textK_len hI k; rw [← ht] at h_; first | (simp only [List.length_append, List.length_cons, List.length_nil]; omega) | (have h1_ := Kn.names_len _ (List.mem_of_getElem? (by assumption)); first | (simp only [List.length_append, List.length_cons, List.length_nil]; omega) | (have h2_ := Wd.itoa_le2 (hI _ (List.mem_of_getElem? (by assumption))); simp only [List.length_append, List.length_cons, List.length_nil]; omega) | omega) )) rfl ?_
      refine Hd.nil ?_
      refine O.p (Pu.assign rfl) rfl ?_
      refine O.nil ?_
      refine J.blk ?_
      refine J.region ?_
      refine O.p (Pu.move rfl) rfl ?_
      refine O.p (Pu.add' rfl rfl (by first | omega | (simp only [List.length_append, List.length_cons, List.length_nil, List.length_set]; omega))) rfl ?_
      refine O.p (Pu.assign rfl) rfl ?_
      refine O.nil ?_
      exact J.lp ⟨k + 1, ((t ++ e12) ++ ([61])) ++ (Lib.itoa e13)⟩ (show (k + 1) ≤ 7 ∧ (((t ++ e12) ++ ([61])) ++ (Lib.itoa e13)) = Kn.textK [a, b, c, d, e, f, g] (k + 1) from ⟨by omega, (by rw [Kn.textK_next he12 he13]; first | (rw [if_neg (by omega), ← ht]; done) | (rw [if_pos (by omega), ht]; have hk_ : k = 0 := (by omega); subst hk_; rfl))⟩) (show 7 - (k + 1) < 7 - k from (by first | omega | (have h2_ : Kn.names.length = 7 := rfl; omega) | (simp only [List.length_cons, List.length_nil]; omega))) ⟨rfl, rfl, rfl, rfl, (congrArg (fun z => some (Value.int .i64 z)) (by first | rfl | omega : ((k : Int) + 1 : Int) = ((k + 1) : Int))), trivial⟩ [0, 1] (by decide) rfl
  ·
    have p14 := of_decide_eq_false h5
    refine J.exit _ rfl ?_
    refine J.seq ?_
    refine J.region ?_
    refine O.p (Pu.move rfl) rfl ?_
    refine O.p (Pu.assign rfl) rfl ?_
    refine O.nil ?_
    exact J.ret (Fin.ret (rs := [.tmp 2]) rfl [_] ⟨rfl, trivial⟩ [] (by decide) [] rfl ⟨(by rw [ht, Kn.textK_all rfl (by omega)]; rfl), rfl⟩)

end Go.Proofs.YtnfkoohgdcocdaaDoor
