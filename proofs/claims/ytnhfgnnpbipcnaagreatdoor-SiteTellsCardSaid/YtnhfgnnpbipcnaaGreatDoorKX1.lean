/-
  Walks, printed by a program of mine (lk.py): each function meets its contract.
-/
import Derived.KernelRfl
import Derived.Test.YtnhfgnnpbipcnaaGreatDoorDX1
import Derived.Test.YtnhfgnnpbipcnaaGreatDoorWX1
import Derived.Test.YtnhfgnnpbipcnaaGreatDoorWordsA
namespace Go.Proofs.YtnhfgnnpbipcnaaGreatDoor
open Go Go.LK
set_option linter.unusedSimpArgs false

theorem s_Join (tv : Value) (ts : List (List UInt8)) (hne : ts ≠ []) (hn : ts.length ≤ 100000) (hl : (Lib.join ts [32]).length ≤ 100000000) : Tri Tryz.prog 40 #[tv, str [32]] [rd tv 1 (ts.map encS)] [] (fun v L' => v = str (Lib.join ts [32]) ∧ L' = []) :=
  Tri.lib fun w hro => by
    have he : Elt w tv 1 (ts.map encS) := hro (rd tv 1 (ts.map encS)) (by simp)
    obtain ⟨cap, hv⟩ := he.addr (by simpa using hne)
    obtain ⟨A0, cap0, hv0, hle, _⟩ := he.form
    have hcells := he.cells
    have hcap : ts.length ≤ cap := by
      rw [hv] at hv0
      injection hv0 with h1 h2 h3
      rw [List.length_map] at hle
      omega
    clear he hv0 hle hro
    rw [List.length_map] at hv
    generalize vblk tv = b at hv hcells
    generalize voff tv = o at hv hcells
    subst hv
    have hc : ∀ (j : Nat) x, (ts.map fun t => (⟨t.toArray⟩ : ByteArray))[j]? = some x → w.cell? ⟨b, o + j, none⟩ = some (.string x) := fun j x hx => by
      rw [List.getElem?_map] at hx
      obtain ⟨t, ht, rfl⟩ := Option.map_eq_some_iff.1 hx
      have := hcells j (encS t) 0 (str t) (by rw [List.getElem?_map, ht]; rfl) rfl
      rwa [Nat.mul_one, Nat.add_zero] at this
    have hb : b < w.heap.size := by
      obtain ⟨t, ht⟩ := List.exists_mem_of_ne_nil ts hne
      obtain ⟨j, hj⟩ := List.mem_iff_getElem?.1 ht
      exact cell_lt (hc j ⟨t.toArray⟩ (by rw [List.getElem?_map, hj]; rfl))
    have hmap : (ts.map fun t => (⟨t.toArray⟩ : ByteArray)).map (·.data.toList) = ts := by
      rw [List.map_map]
      show ts.map (fun t => t) = ts
      simp
    have h := Tryz.strings_Join b o cap (ts.map fun t => ⟨t.toArray⟩) ⟨[32].toArray⟩ w hc hb (by rw [List.length_map]; omega) (by rw [List.length_map]; exact hcap) (by rw [hmap]; exact Nat.le_trans hl (by decide))
    rw [hmap, List.length_map] at h
    exact h.mono fun e w' ⟨he, hw⟩ => ⟨he, Frame.of_below hw⟩

set_option maxRecDepth 100000 in
theorem w_Join (lv : Value) (l : List (List UInt8)) (hne : l ≠ []) (hn : l.length ≤ 1000) (hw : ∀ x ∈ l, x.length ≤ 90000) : Tri Tryz.prog 35 #[lv] [rd lv 1 (l.map encS)] [] (fun v L' => v = str (Lib.join l [32]) ∧ L' = []) := by
  refine Tri.en F35 rfl K35 rfl fun w0 => ?_
  refine J.co 7 rfl ?_
  refine O.l (Lo.ca C40 (s_Join lv l hne (by omega) (by have h_ := Wd.join_le l 90000 hw; omega)) [] rfl rfl (.ro 0 rfl .nil)) rfl ?_
  rintro _ _ ⟨_, ⟨rfl, rfl⟩, rfl⟩
  refine O.oc 2 rfl ?_
  exact J.r0 rfl rfl ⟨rfl, rfl⟩

set_option maxRecDepth 100000 in
theorem w_Cut (w : List UInt8) (hw : w.length ≤ 1000000) : Tri Tryz.prog 82 #[str w] [libW] [] (fun v L' => v = .tuple #[str (Wd.cutL w).1, str (Wd.cutL w).2.1, .bool (Wd.cutL w).2.2] ∧ L' = []) := by
  refine Tri.en F82 rfl K82 rfl fun w0 => ?_
  refine J.co 9 rfl ?_
  refine O.l (Lo.ca C111 (s_Cut w ([61]) (by omega)) [] rfl rfl (.ro 0 rfl .nil)) rfl ?_
  rintro _ _ ⟨_, ⟨rfl, rfl⟩, rfl⟩
  refine O.oc 14 rfl ?_
  refine J.cond rfl (fun h2 => ?_) (fun h2 => ?_)
  ·
    have h3 : ((Lib.cut w ([61])).2.2) = false := not_flip h2
    refine J.cc 6 rfl ?_
    exact J.rn [_, _, _] [] rfl ⟨rfl, rfl, rfl, trivial⟩ rfl ⟨(by first | (rw [Wd.cutL_no (by assumption)]; rfl) | (rw [Wd.cutL_yes (by assumption)]; rfl)), rfl⟩
  ·
    have h4 : ((Lib.cut w ([61])).2.2) = true := not_flip h2
    refine J.cc 9 rfl ?_
    exact J.rn [_, _, _] [] rfl ⟨rfl, rfl, rfl, trivial⟩ rfl ⟨(by first | (rw [Wd.cutL_no (by assumption)]; rfl) | (rw [Wd.cutL_yes (by assumption)]; rfl)), rfl⟩

set_option maxRecDepth 100000 in
theorem kn_field (g : Nat) (i : Int) (h0 : 0 ≤ i) (h1 : i < 7) : Tri Tryz.prog 96 #[.pointer (some ⟨g, 0, none⟩), .int .i64 i] [] [] (fun v L' => v = .pointer (some ⟨g, 0 + i.toNat * 1, none⟩) ∧ L' = []) := by
  refine Tri.en F96 rfl K96 rfl fun w0 => ?_
  refine J.cc 15 rfl ?_
  refine J.cd rfl (fun p1 => ?_) (fun p1 => ?_)
  ·
    refine J.cc 7 rfl ?_
    exact J.r0 rfl rfl ⟨(by have hi_ : i = 0 := (by omega); subst hi_; rfl), rfl⟩
  ·
    refine J.cc 5 rfl ?_
    refine J.cd rfl (fun p2 => ?_) (fun p2 => ?_)
    ·
      refine J.cc 7 rfl ?_
      exact J.r0 rfl rfl ⟨(by have hi_ : i = 1 := (by omega); subst hi_; rfl), rfl⟩
    ·
      refine J.cc 5 rfl ?_
      refine J.cd rfl (fun p3 => ?_) (fun p3 => ?_)
      ·
        refine J.cc 7 rfl ?_
        exact J.r0 rfl rfl ⟨(by have hi_ : i = 2 := (by omega); subst hi_; rfl), rfl⟩
      ·
        refine J.cc 5 rfl ?_
        refine J.cd rfl (fun p4 => ?_) (fun p4 => ?_)
        ·
          refine J.cc 7 rfl ?_
          exact J.r0 rfl rfl ⟨(by have hi_ : i = 3 := (by omega); subst hi_; rfl), rfl⟩
        ·
          refine J.cc 5 rfl ?_
          refine J.cd rfl (fun p5 => ?_) (fun p5 => ?_)
          ·
            refine J.cc 7 rfl ?_
            exact J.r0 rfl rfl ⟨(by have hi_ : i = 4 := (by omega); subst hi_; rfl), rfl⟩
          ·
            refine J.cc 5 rfl ?_
            refine J.cd rfl (fun p6 => ?_) (fun p6 => ?_)
            ·
              refine J.cc 7 rfl ?_
              exact J.r0 rfl rfl ⟨(by have hi_ : i = 5 := (by omega); subst hi_; rfl), rfl⟩
            ·
              refine J.cc 9 rfl ?_
              exact J.r0 rfl rfl ⟨(by have hi_ : i = 6 := (by omega); subst hi_; rfl), rfl⟩

set_option maxRecDepth 100000 in
theorem kn_Values (a b c d e f g : Int) : Tri Tryz.prog 105 #[.agg #[.int .i64 a, .int .i64 b, .int .i64 c, .int .i64 d, .int .i64 e, .int .i64 f, .int .i64 g]] [] [] (fun v L' => L' = [row v 3 1 ([a, b, c, d, e, f, g].map encZ)]) := by
  refine Tri.en F105 rfl K105 rfl fun w0 => ?_
  refine J.co 2 rfl ?_
  refine O.l (Lo.bx rfl rfl) rfl ?_
  rintro _ _ ⟨g1, rfl, rfl⟩
  refine O.oc 12 rfl ?_
  refine J.nilRow 3 1 ?_
  refine J.loop (X := Nat × Value) (fun ξ => ξ.1 ≤ 7) (fun ξ => [(1, .pointer (some ⟨g1, 0, none⟩)), (2, Value.slice none 0 0), (3, ξ.2), (5, .int .i64 (ξ.1 : Int))]) (fun ξ => [var g1 [.int .i64 a, .int .i64 b, .int .i64 c, .int .i64 d, .int .i64 e, .int .i64 f, .int .i64 g] 44, row ξ.2 3 1 (([a, b, c, d, e, f, g].take ξ.1).map encZ)]) (fun ξ => 7 - ξ.1) ⟨0, Value.slice none 0 0⟩ (show 0 ≤ 7 from (by omega)) ⟨rfl, rfl, rfl, (congrArg (fun z => some (Value.int .i64 z)) (by first | rfl | omega : (0 : Int) = (0 : Int))), trivial⟩ [1, 0] (by decide) rfl ?_
  rintro ⟨k, V⟩ hq2
  obtain hk : k ≤ 7 := hq2
  show J _ _ [(1, .pointer (some ⟨g1, 0, none⟩)), (2, Value.slice none 0 0), (3, V), (5, .int .i64 (k : Int))] [var g1 [.int .i64 a, .int .i64 b, .int .i64 c, .int .i64 d, .int .i64 e, .int .i64 f, .int .i64 g] 44, row V 3 1 (([a, b, c, d, e, f, g].take k).map encZ)]
  obtain rfl | rfl | rfl | rfl | rfl | rfl | rfl | rfl : k = 0 ∨ k = 1 ∨ k = 2 ∨ k = 3 ∨ k = 4 ∨ k = 5 ∨ k = 6 ∨ k = 7 := by omega
  ·
    show J _ _ [(1, .pointer (some ⟨g1, 0, none⟩)), (2, Value.slice none 0 0), (3, V), (5, .int .i64 0)] [var g1 [.int .i64 a, .int .i64 b, .int .i64 c, .int .i64 d, .int .i64 e, .int .i64 f, .int .i64 g] 44, row V 3 1 (([a, b, c, d, e, f, g].take 0).map encZ)]
    refine J.co 17 rfl ?_
    refine O.l (Lo.ca C96 (kn_field g1 0 (by omega) (by omega)) [] rfl rfl .nil) rfl ?_
    rintro _ _ ⟨_, ⟨rfl, rfl⟩, rfl⟩
    refine O.oo 1 rfl ?_
    refine O.q (Qt.lv 0 A3 rfl rfl rfl) rfl ?_
    refine O.l (Lo.bm encZ [a] U53 Z3 Y3 rfl rfl rfl (by kernel_rfl) rfl rfl) rfl ?_
    rintro V4 _ rfl
    refine O.l (Lo.am 2 N53 info3 rfl rfl rfl rfl rfl (Src.row 0 rfl) encZ.one (by first | omega | decide | (simp; done)) (by first | omega | decide | (simp; done))) rfl ?_
    rintro V5 _ rfl
    refine O.oo 4 rfl ?_
    refine O.p (Pu.add' rfl rfl (by omega)) rfl ?_
    refine O.oc 2 rfl ?_
    exact J.lp ⟨1, V5⟩ (show 1 ≤ 7 from (by omega)) (show 7 - 1 < 7 - 0 from (by omega)) ⟨rfl, rfl, rfl, (congrArg (fun z => some (Value.int .i64 z)) (by first | rfl | omega : (0 + 1 : Int) = (1 : Int))), trivial⟩ [1, 2] (by decide) rfl
  ·
    show J _ _ [(1, .pointer (some ⟨g1, 0, none⟩)), (2, Value.slice none 0 0), (3, V), (5, .int .i64 1)] [var g1 [.int .i64 a, .int .i64 b, .int .i64 c, .int .i64 d, .int .i64 e, .int .i64 f, .int .i64 g] 44, row V 3 1 (([a, b, c, d, e, f, g].take 1).map encZ)]
    refine J.co 17 rfl ?_
    refine O.l (Lo.ca C96 (kn_field g1 1 (by omega) (by omega)) [] rfl rfl .nil) rfl ?_
    rintro _ _ ⟨_, ⟨rfl, rfl⟩, rfl⟩
    refine O.oo 1 rfl ?_
    refine O.q (Qt.lv 0 A3 rfl rfl rfl) rfl ?_
    refine O.l (Lo.bm encZ [b] U53 Z3 Y3 rfl rfl rfl (by kernel_rfl) rfl rfl) rfl ?_
    rintro V7 _ rfl
    refine O.l (Lo.am 2 N53 info3 rfl rfl rfl rfl rfl (Src.row 0 rfl) encZ.one (by first | omega | decide | (simp; done)) (by first | omega | decide | (simp; done))) rfl ?_
    rintro V8 _ rfl
    refine O.oo 4 rfl ?_
    refine O.p (Pu.add' rfl rfl (by omega)) rfl ?_
    refine O.oc 2 rfl ?_
    exact J.lp ⟨2, V8⟩ (show 2 ≤ 7 from (by omega)) (show 7 - 2 < 7 - 1 from (by omega)) ⟨rfl, rfl, rfl, (congrArg (fun z => some (Value.int .i64 z)) (by first | rfl | omega : (1 + 1 : Int) = (2 : Int))), trivial⟩ [1, 2] (by decide) rfl
  ·
    show J _ _ [(1, .pointer (some ⟨g1, 0, none⟩)), (2, Value.slice none 0 0), (3, V), (5, .int .i64 2)] [var g1 [.int .i64 a, .int .i64 b, .int .i64 c, .int .i64 d, .int .i64 e, .int .i64 f, .int .i64 g] 44, row V 3 1 (([a, b, c, d, e, f, g].take 2).map encZ)]
    refine J.co 17 rfl ?_
    refine O.l (Lo.ca C96 (kn_field g1 2 (by omega) (by omega)) [] rfl rfl .nil) rfl ?_
    rintro _ _ ⟨_, ⟨rfl, rfl⟩, rfl⟩
    refine O.oo 1 rfl ?_
    refine O.q (Qt.lv 0 A3 rfl rfl rfl) rfl ?_
    refine O.l (Lo.bm encZ [c] U53 Z3 Y3 rfl rfl rfl (by kernel_rfl) rfl rfl) rfl ?_
    rintro V10 _ rfl
    refine O.l (Lo.am 2 N53 info3 rfl rfl rfl rfl rfl (Src.row 0 rfl) encZ.one (by first | omega | decide | (simp; done)) (by first | omega | decide | (simp; done))) rfl ?_
    rintro V11 _ rfl
    refine O.oo 4 rfl ?_
    refine O.p (Pu.add' rfl rfl (by omega)) rfl ?_
    refine O.oc 2 rfl ?_
    exact J.lp ⟨3, V11⟩ (show 3 ≤ 7 from (by omega)) (show 7 - 3 < 7 - 2 from (by omega)) ⟨rfl, rfl, rfl, (congrArg (fun z => some (Value.int .i64 z)) (by first | rfl | omega : (2 + 1 : Int) = (3 : Int))), trivial⟩ [1, 2] (by decide) rfl
  ·
    show J _ _ [(1, .pointer (some ⟨g1, 0, none⟩)), (2, Value.slice none 0 0), (3, V), (5, .int .i64 3)] [var g1 [.int .i64 a, .int .i64 b, .int .i64 c, .int .i64 d, .int .i64 e, .int .i64 f, .int .i64 g] 44, row V 3 1 (([a, b, c, d, e, f, g].take 3).map encZ)]
    refine J.co 17 rfl ?_
    refine O.l (Lo.ca C96 (kn_field g1 3 (by omega) (by omega)) [] rfl rfl .nil) rfl ?_
    rintro _ _ ⟨_, ⟨rfl, rfl⟩, rfl⟩
    refine O.oo 1 rfl ?_
    refine O.q (Qt.lv 0 A3 rfl rfl rfl) rfl ?_
    refine O.l (Lo.bm encZ [d] U53 Z3 Y3 rfl rfl rfl (by kernel_rfl) rfl rfl) rfl ?_
    rintro V13 _ rfl
    refine O.l (Lo.am 2 N53 info3 rfl rfl rfl rfl rfl (Src.row 0 rfl) encZ.one (by first | omega | decide | (simp; done)) (by first | omega | decide | (simp; done))) rfl ?_
    rintro V14 _ rfl
    refine O.oo 4 rfl ?_
    refine O.p (Pu.add' rfl rfl (by omega)) rfl ?_
    refine O.oc 2 rfl ?_
    exact J.lp ⟨4, V14⟩ (show 4 ≤ 7 from (by omega)) (show 7 - 4 < 7 - 3 from (by omega)) ⟨rfl, rfl, rfl, (congrArg (fun z => some (Value.int .i64 z)) (by first | rfl | omega : (3 + 1 : Int) = (4 : Int))), trivial⟩ [1, 2] (by decide) rfl
  ·
    show J _ _ [(1, .pointer (some ⟨g1, 0, none⟩)), (2, Value.slice none 0 0), (3, V), (5, .int .i64 4)] [var g1 [.int .i64 a, .int .i64 b, .int .i64 c, .int .i64 d, .int .i64 e, .int .i64 f, .int .i64 g] 44, row V 3 1 (([a, b, c, d, e, f, g].take 4).map encZ)]
    refine J.co 17 rfl ?_
    refine O.l (Lo.ca C96 (kn_field g1 4 (by omega) (by omega)) [] rfl rfl .nil) rfl ?_
    rintro _ _ ⟨_, ⟨rfl, rfl⟩, rfl⟩
    refine O.oo 1 rfl ?_
    refine O.q (Qt.lv 0 A3 rfl rfl rfl) rfl ?_
    refine O.l (Lo.bm encZ [e] U53 Z3 Y3 rfl rfl rfl (by kernel_rfl) rfl rfl) rfl ?_
    rintro V16 _ rfl
    refine O.l (Lo.am 2 N53 info3 rfl rfl rfl rfl rfl (Src.row 0 rfl) encZ.one (by first | omega | decide | (simp; done)) (by first | omega | decide | (simp; done))) rfl ?_
    rintro V17 _ rfl
    refine O.oo 4 rfl ?_
    refine O.p (Pu.add' rfl rfl (by omega)) rfl ?_
    refine O.oc 2 rfl ?_
    exact J.lp ⟨5, V17⟩ (show 5 ≤ 7 from (by omega)) (show 7 - 5 < 7 - 4 from (by omega)) ⟨rfl, rfl, rfl, (congrArg (fun z => some (Value.int .i64 z)) (by first | rfl | omega : (4 + 1 : Int) = (5 : Int))), trivial⟩ [1, 2] (by decide) rfl
  ·
    show J _ _ [(1, .pointer (some ⟨g1, 0, none⟩)), (2, Value.slice none 0 0), (3, V), (5, .int .i64 5)] [var g1 [.int .i64 a, .int .i64 b, .int .i64 c, .int .i64 d, .int .i64 e, .int .i64 f, .int .i64 g] 44, row V 3 1 (([a, b, c, d, e, f, g].take 5).map encZ)]
    refine J.co 17 rfl ?_
    refine O.l (Lo.ca C96 (kn_field g1 5 (by omega) (by omega)) [] rfl rfl .nil) rfl ?_
    rintro _ _ ⟨_, ⟨rfl, rfl⟩, rfl⟩
    refine O.oo 1 rfl ?_
    refine O.q (Qt.lv 0 A3 rfl rfl rfl) rfl ?_
    refine O.l (Lo.bm encZ [f] U53 Z3 Y3 rfl rfl rfl (by kernel_rfl) rfl rfl) rfl ?_
    rintro V19 _ rfl
    refine O.l (Lo.am 2 N53 info3 rfl rfl rfl rfl rfl (Src.row 0 rfl) encZ.one (by first | omega | decide | (simp; done)) (by first | omega | decide | (simp; done))) rfl ?_
    rintro V20 _ rfl
    refine O.oo 4 rfl ?_
    refine O.p (Pu.add' rfl rfl (by omega)) rfl ?_
    refine O.oc 2 rfl ?_
    exact J.lp ⟨6, V20⟩ (show 6 ≤ 7 from (by omega)) (show 7 - 6 < 7 - 5 from (by omega)) ⟨rfl, rfl, rfl, (congrArg (fun z => some (Value.int .i64 z)) (by first | rfl | omega : (5 + 1 : Int) = (6 : Int))), trivial⟩ [1, 2] (by decide) rfl
  ·
    show J _ _ [(1, .pointer (some ⟨g1, 0, none⟩)), (2, Value.slice none 0 0), (3, V), (5, .int .i64 6)] [var g1 [.int .i64 a, .int .i64 b, .int .i64 c, .int .i64 d, .int .i64 e, .int .i64 f, .int .i64 g] 44, row V 3 1 (([a, b, c, d, e, f, g].take 6).map encZ)]
    refine J.co 17 rfl ?_
    refine O.l (Lo.ca C96 (kn_field g1 6 (by omega) (by omega)) [] rfl rfl .nil) rfl ?_
    rintro _ _ ⟨_, ⟨rfl, rfl⟩, rfl⟩
    refine O.oo 1 rfl ?_
    refine O.q (Qt.lv 0 A3 rfl rfl rfl) rfl ?_
    refine O.l (Lo.bm encZ [g] U53 Z3 Y3 rfl rfl rfl (by kernel_rfl) rfl rfl) rfl ?_
    rintro V22 _ rfl
    refine O.l (Lo.am 2 N53 info3 rfl rfl rfl rfl rfl (Src.row 0 rfl) encZ.one (by first | omega | decide | (simp; done)) (by first | omega | decide | (simp; done))) rfl ?_
    rintro V23 _ rfl
    refine O.oo 4 rfl ?_
    refine O.p (Pu.add' rfl rfl (by omega)) rfl ?_
    refine O.oc 2 rfl ?_
    exact J.lp ⟨7, V23⟩ (show 7 ≤ 7 from (by omega)) (show 7 - 7 < 7 - 6 from (by omega)) ⟨rfl, rfl, rfl, (congrArg (fun z => some (Value.int .i64 z)) (by first | rfl | omega : (6 + 1 : Int) = (7 : Int))), trivial⟩ [1, 2] (by decide) rfl
  ·
    show J _ _ [(1, .pointer (some ⟨g1, 0, none⟩)), (2, Value.slice none 0 0), (3, V), (5, .int .i64 7)] [var g1 [.int .i64 a, .int .i64 b, .int .i64 c, .int .i64 d, .int .i64 e, .int .i64 f, .int .i64 g] 44, row V 3 1 (([a, b, c, d, e, f, g].take 7).map encZ)]
    refine J.cc 12 rfl ?_
    exact J.r1 [1] rfl rfl rfl rfl

set_option maxRecDepth 100000 in
theorem r18_Values (a b c d e f g : Int) : Tri Tryz.prog 92 #[.agg #[.int .i64 a, .int .i64 b, .int .i64 c, .int .i64 d, .int .i64 e, .int .i64 f, .int .i64 g]] [] [] (fun v L' => L' = [row v 3 1 ([a, b, c, d, e, f, g].map encZ)]) := by
  refine Tri.en F92 rfl K92 rfl fun w0 => ?_
  refine J.co 2 rfl ?_
  refine O.l (Lo.bx rfl rfl) rfl ?_
  rintro _ _ ⟨g1, rfl, rfl⟩
  refine O.oo 5 rfl ?_
  refine O.q (Qt.lv 0 A3 rfl rfl rfl) rfl ?_
  refine O.oo 1 rfl ?_
  refine O.q (Qt.lv 0 A3 rfl rfl rfl) rfl ?_
  refine O.oo 1 rfl ?_
  refine O.q (Qt.lv 0 A3 rfl rfl rfl) rfl ?_
  refine O.oo 1 rfl ?_
  refine O.q (Qt.lv 0 A3 rfl rfl rfl) rfl ?_
  refine O.oo 1 rfl ?_
  refine O.q (Qt.lv 0 A3 rfl rfl rfl) rfl ?_
  refine O.oo 1 rfl ?_
  refine O.q (Qt.lv 0 A3 rfl rfl rfl) rfl ?_
  refine O.oo 1 rfl ?_
  refine O.q (Qt.lv 0 A3 rfl rfl rfl) rfl ?_
  refine O.l (Lo.bm encZ [a, b, c, d, e, f, g] U53 Z3 Y3 rfl rfl rfl (by kernel_rfl) rfl rfl) rfl ?_
  rintro V2 _ rfl
  refine O.oc 2 rfl ?_
  exact J.r1 [0] rfl rfl rfl rfl

set_option maxRecDepth 100000 in
theorem kn_Names  : Tri Tryz.prog 104 #[] [var 1 (Kn.names.map vS) 144] [] (fun v L' => L' = [row v 9 1 (Kn.names.map encS)]) := by
  refine Tri.en F104 rfl K104 rfl fun w0 => ?_
  refine J.co 6 rfl ?_
  refine O.l (Lo.buildE encS U72 Z9) rfl ?_
  rintro V1 _ rfl
  refine O.p (Pu.wholeArr U144 Z9 rfl) rfl ?_
  refine O.l (Lo.am 0 N72 info9 rfl rfl rfl rfl rfl (Src.wholeRo 0 rfl (by rfl) (by decide)) encS.one (by decide) (by decide)) rfl ?_
  rintro V2 _ rfl
  refine O.oc 2 rfl ?_
  exact J.r1 [0] rfl rfl rfl rfl

set_option maxRecDepth 100000 in
theorem r18_Names  : Tri Tryz.prog 108 #[] [] [] (fun v L' => L' = [row v 9 1 (Kn.names.map encS)]) := by
  refine Tri.en F108 rfl K108 rfl fun w0 => ?_
  refine J.co 6 rfl ?_
  refine O.l (Lo.bm encS [[108, 111, 119], [104, 105, 103, 104], [99, 117, 116], [108, 105, 102, 116], [102, 108, 111, 111, 114], [116, 117, 114, 110], [100, 119, 101, 108, 108]] U72 Z9 Y9 rfl rfl rfl (by kernel_rfl) rfl rfl) rfl ?_
  rintro V1 _ rfl
  refine O.oc 2 rfl ?_
  exact J.r1 [0] rfl rfl rfl rfl

end Go.Proofs.YtnhfgnnpbipcnaaGreatDoor
