/-
  Walks, printed by a program of mine (lk.py): each function meets its contract.
-/
import Derived.KernelRfl
import Derived.Test.YtnhfgnnpbipcnaaGreatDoorDX1
import Derived.Test.YtnhfgnnpbipcnaaGreatDoorWX1
import Derived.Test.YtnhfgnnpbipcnaaGreatDoorWordsA
namespace Go.Proofs.YtnhfgnnpbipcnaaGreatDoor
open Go Go.LK Go.Proofs.Tryz
set_option linter.unusedSimpArgs false

theorem s_Join (tv : Value) (ts : List (List UInt8)) (hne : ts ≠ []) (hn : ts.length ≤ 100000) (hl : (Lib.join ts [32]).length ≤ 100000000) : Tri prog 40 #[tv, str [32]] [rd tv 1 (ts.map encS)] [] (fun v L' => v = str (Lib.join ts [32]) ∧ L' = []) :=
  Tri.lib fun w hro => by
    have he : Elt w tv 1 (ts.map encS) := hro (rd tv 1 (ts.map encS)) (by simp)
    obtain ⟨cap, hv⟩ := he.addr (by simpa using hne)
    obtain ⟨A0, cap0, hv0, hle, _⟩ := he.form
    have hcells := he.cells
    have hcap : ts.length ≤ cap := by
      rw [hv] at hv0
      injection hv0 with h1 h2 h3
      rw [List.length_map] at hle
      omega
    clear he hv0 hle hro
    rw [List.length_map] at hv
    generalize vblk tv = b at hv hcells
    generalize voff tv = o at hv hcells
    subst hv
    have hc : ∀ (j : Nat) x, (ts.map fun t => (⟨t.toArray⟩ : ByteArray))[j]? = some x → w.cell? ⟨b, o + j, none⟩ = some (.string x) := fun j x hx => by
      rw [List.getElem?_map] at hx
      obtain ⟨t, ht, rfl⟩ := Option.map_eq_some_iff.1 hx
      have := hcells j (encS t) 0 (str t) (by rw [List.getElem?_map, ht]; rfl) rfl
      rwa [Nat.mul_one, Nat.add_zero] at this
    have hb : b < w.heap.size := by
      obtain ⟨t, ht⟩ := List.exists_mem_of_ne_nil ts hne
      obtain ⟨j, hj⟩ := List.mem_iff_getElem?.1 ht
      exact cell_lt (hc j ⟨t.toArray⟩ (by rw [List.getElem?_map, hj]; rfl))
    have hmap : (ts.map fun t => (⟨t.toArray⟩ : ByteArray)).map (·.data.toList) = ts := by
      rw [List.map_map]
      show ts.map (fun t => t) = ts
      simp
    have h := strings_Join b o cap (ts.map fun t => ⟨t.toArray⟩) ⟨[32].toArray⟩ w hc hb (by rw [List.length_map]; omega) (by rw [List.length_map]; exact hcap) (by rw [hmap]; exact Nat.le_trans hl (by decide))
    rw [hmap, List.length_map] at h
    exact h.mono fun e w' ⟨he, hw⟩ => ⟨he, Frame.of_below hw⟩

set_option maxRecDepth 100000 in
theorem w_Join (lv : Value) (l : List (List UInt8)) (hne : l ≠ []) (hn : l.length ≤ 1000) (hw : ∀ x ∈ l, x.length ≤ 90000) : Tri prog 35 #[lv] [rd lv 1 (l.map encS)] [] (fun v L' => v = str (Lib.join l [32]) ∧ L' = []) := by
 refine Tri.enter (args := [lv]) (body := _) 5 func35 rfl ntmps35 rfl ?_
 intro w0
 refine J.seq <| J.region <| O.a rfl rfl <| O.nil <| J.seq <| J.region <| O.m rfl rfl <| O.l (Lo.call [lv, str ([32])] (by exact call40) rfl (s_Join lv l hne (by omega) (by have h_ := Wd.join_le l 90000 hw; omega)) [] [] (by decide) rfl [] rfl (RoOk.ro 0 rfl [] rfl RoOk.nil)) rfl ?_
 rintro _ _ ⟨_, ⟨rfl, rfl⟩, rfl⟩
 refine O.a rfl rfl <| O.nil ?_
 exact J.ret (Fin.ret (rs := [.tmp 2]) rfl [_] ⟨rfl, trivial⟩ [] (by decide) [] rfl ⟨rfl, rfl⟩)

set_option maxRecDepth 100000 in
theorem w_Cut (w : List UInt8) (hw : w.length ≤ 1000000) : Tri prog 82 #[str w] [libW] [] (fun v L' => v = .tuple #[str (Wd.cutL w).1, str (Wd.cutL w).2.1, .bool (Wd.cutL w).2.2] ∧ L' = []) := by
 refine Tri.enter (args := [str w]) (body := _) 18 func82 rfl ntmps82 rfl ?_
 intro w0
 refine J.seq <| J.region <| O.a rfl rfl <| O.a rfl rfl <| O.a rfl rfl <| O.nil <| J.seq <| J.region <| O.m rfl rfl <| O.l (Lo.call [str w, str ([61])] (by exact call111) rfl (s_Cut w ([61]) (by first | omega | (simp only [List.length_append, List.length_cons, List.length_nil, List.length_set]; omega))) [] [] (by decide) rfl [] rfl (RoOk.ro 0 rfl [] rfl RoOk.nil)) rfl ?_
 rintro _ _ ⟨_, ⟨rfl, rfl⟩, rfl⟩
 refine O.m rfl rfl <| O.p (Pu.extract rfl rfl) rfl <| O.p (Pu.extract rfl rfl) rfl <| O.p (Pu.extract rfl rfl) rfl <| O.a rfl rfl <| O.a rfl rfl <| O.a rfl rfl <| O.nil <| J.seq <| J.seq <| J.region <| O.m rfl rfl ?_
 refine O.p (Pu.not rfl) rfl <| O.nil ?_
 refine J.cond rfl (fun h2 => ?_) (fun h2 => ?_)
 ·
  have h3 : ((Lib.cut w ([61])).2.2) = false := not_flip h2
  refine J.seq <| J.region <| O.a rfl rfl <| O.a rfl rfl <| O.a rfl rfl <| O.nil ?_
  exact J.ret (Fin.ret (rs := [.tmp 2, .tmp 3, .tmp 4]) rfl [_, _, _] ⟨rfl, rfl, rfl, trivial⟩ [] (by decide) [] rfl ⟨(by first | (rw [Wd.cutL_no ‹_›]; rfl) | (rw [Wd.cutL_yes ‹_›]; rfl)), rfl⟩)
 ·
  have h4 : ((Lib.cut w ([61])).2.2) = true := not_flip h2
  refine J.skip <| J.seq <| J.region <| O.m rfl rfl <| O.m rfl rfl <| O.a rfl rfl <| O.a rfl rfl <| O.a rfl rfl <| O.nil ?_
  exact J.ret (Fin.ret (rs := [.tmp 2, .tmp 3, .tmp 4]) rfl [_, _, _] ⟨rfl, rfl, rfl, trivial⟩ [] (by decide) [] rfl ⟨(by first | (rw [Wd.cutL_no ‹_›]; rfl) | (rw [Wd.cutL_yes ‹_›]; rfl)), rfl⟩)

set_option maxRecDepth 100000 in
theorem kn_field (g : Nat) (i : Int) (h0 : 0 ≤ i) (h1 : i < 7) : Tri prog 96 #[.pointer (some ⟨g, 0, none⟩), .int .i64 i] [] [] (fun v L' => v = .pointer (some ⟨g, 0 + i.toNat * 1, none⟩) ∧ L' = []) := by
 refine Tri.enter (args := [.pointer (some ⟨g, 0, none⟩), .int .i64 i]) (body := _) 39 func96 rfl ntmps96 rfl ?_
 intro w0
 refine J.seq <| J.region <| O.a rfl rfl <| O.nil <| J.seq <| J.seq <| J.region <| O.m rfl rfl <| O.nil <| J.block <| J.seq <| J.region ?_
 refine O.p (Pu.eql rfl rfl) rfl <| O.a rfl rfl <| O.nil ?_
 refine J.cond rfl (fun h1 => ?_) (fun h1 => ?_)
 ·
  have p2 := of_decide_eq_true h1
  refine J.seq <| J.region <| O.m rfl rfl <| O.p (Pu.nilCheck rfl) rfl <| O.p (Pu.fieldAddr (off' := 0) runUnderlying44 rfl sizeOf3 rfl rfl rfl) rfl <| O.a rfl rfl <| O.nil ?_
  exact J.ret (Fin.ret (rs := [.tmp 4]) rfl [_] ⟨rfl, trivial⟩ [] (by decide) [] rfl ⟨(by have hi_ : i = 0 := (by omega); subst hi_; rfl), rfl⟩)
 ·
  have p3 := of_decide_eq_false h1
  refine J.seq <| J.region <| O.p (Pu.eql rfl rfl) rfl <| O.a rfl rfl <| O.nil ?_
  refine J.cond rfl (fun h4 => ?_) (fun h4 => ?_)
  ·
   have p5 := of_decide_eq_true h4
   refine J.seq <| J.region <| O.m rfl rfl <| O.p (Pu.nilCheck rfl) rfl <| O.p (Pu.fieldAddr (off' := 1) runUnderlying44 rfl sizeOf3 rfl rfl rfl) rfl <| O.a rfl rfl <| O.nil ?_
   exact J.ret (Fin.ret (rs := [.tmp 4]) rfl [_] ⟨rfl, trivial⟩ [] (by decide) [] rfl ⟨(by have hi_ : i = 1 := (by omega); subst hi_; rfl), rfl⟩)
  ·
   have p6 := of_decide_eq_false h4
   refine J.seq <| J.region <| O.p (Pu.eql rfl rfl) rfl <| O.a rfl rfl <| O.nil ?_
   refine J.cond rfl (fun h7 => ?_) (fun h7 => ?_)
   ·
    have p8 := of_decide_eq_true h7
    refine J.seq <| J.region <| O.m rfl rfl <| O.p (Pu.nilCheck rfl) rfl <| O.p (Pu.fieldAddr (off' := 2) runUnderlying44 rfl sizeOf3 rfl rfl rfl) rfl <| O.a rfl rfl <| O.nil ?_
    exact J.ret (Fin.ret (rs := [.tmp 4]) rfl [_] ⟨rfl, trivial⟩ [] (by decide) [] rfl ⟨(by have hi_ : i = 2 := (by omega); subst hi_; rfl), rfl⟩)
   ·
    have p9 := of_decide_eq_false h7
    refine J.seq <| J.region <| O.p (Pu.eql rfl rfl) rfl <| O.a rfl rfl <| O.nil ?_
    refine J.cond rfl (fun h10 => ?_) (fun h10 => ?_)
    ·
     have p11 := of_decide_eq_true h10
     refine J.seq <| J.region <| O.m rfl rfl <| O.p (Pu.nilCheck rfl) rfl <| O.p (Pu.fieldAddr (off' := 3) runUnderlying44 rfl sizeOf3 rfl rfl rfl) rfl <| O.a rfl rfl <| O.nil ?_
     exact J.ret (Fin.ret (rs := [.tmp 4]) rfl [_] ⟨rfl, trivial⟩ [] (by decide) [] rfl ⟨(by have hi_ : i = 3 := (by omega); subst hi_; rfl), rfl⟩)
    ·
     have p12 := of_decide_eq_false h10
     refine J.seq <| J.region <| O.p (Pu.eql rfl rfl) rfl <| O.a rfl rfl <| O.nil ?_
     refine J.cond rfl (fun h13 => ?_) (fun h13 => ?_)
     ·
      have p14 := of_decide_eq_true h13
      refine J.seq <| J.region <| O.m rfl rfl <| O.p (Pu.nilCheck rfl) rfl <| O.p (Pu.fieldAddr (off' := 4) runUnderlying44 rfl sizeOf3 rfl rfl rfl) rfl <| O.a rfl rfl <| O.nil ?_
      exact J.ret (Fin.ret (rs := [.tmp 4]) rfl [_] ⟨rfl, trivial⟩ [] (by decide) [] rfl ⟨(by have hi_ : i = 4 := (by omega); subst hi_; rfl), rfl⟩)
     ·
      have p15 := of_decide_eq_false h13
      refine J.seq <| J.region <| O.p (Pu.eql rfl rfl) rfl <| O.a rfl rfl <| O.nil ?_
      refine J.cond rfl (fun h16 => ?_) (fun h16 => ?_)
      ·
       have p17 := of_decide_eq_true h16
       refine J.seq <| J.region <| O.m rfl rfl <| O.p (Pu.nilCheck rfl) rfl <| O.p (Pu.fieldAddr (off' := 5) runUnderlying44 rfl sizeOf3 rfl rfl rfl) rfl <| O.a rfl rfl <| O.nil ?_
       exact J.ret (Fin.ret (rs := [.tmp 4]) rfl [_] ⟨rfl, trivial⟩ [] (by decide) [] rfl ⟨(by have hi_ : i = 5 := (by omega); subst hi_; rfl), rfl⟩)
      ·
       have p18 := of_decide_eq_false h16
       refine J.skip <| J.blk <| J.seq <| J.region <| O.m rfl rfl <| O.p (Pu.nilCheck rfl) rfl <| O.p (Pu.fieldAddr (off' := 6) runUnderlying44 rfl sizeOf3 rfl rfl rfl) rfl <| O.a rfl rfl <| O.nil ?_
       exact J.ret (Fin.ret (rs := [.tmp 4]) rfl [_] ⟨rfl, trivial⟩ [] (by decide) [] rfl ⟨(by have hi_ : i = 6 := (by omega); subst hi_; rfl), rfl⟩)

set_option maxRecDepth 100000 in
theorem kn_Values (a b c d e f g : Int) : Tri prog 105 #[.agg #[.int .i64 a, .int .i64 b, .int .i64 c, .int .i64 d, .int .i64 e, .int .i64 f, .int .i64 g]] [] [] (fun v L' => L' = [row v 3 1 ([a, b, c, d, e, f, g].map encZ)]) := by
 refine Tri.enter (args := [.agg #[.int .i64 a, .int .i64 b, .int .i64 c, .int .i64 d, .int .i64 e, .int .i64 f, .int .i64 g]]) (body := _) 17 func105 rfl ntmps105 rfl ?_
 intro w0
 refine J.seq <| J.region <| O.l (Lo.box [.int .i64 a, .int .i64 b, .int .i64 c, .int .i64 d, .int .i64 e, .int .i64 f, .int .i64 g] rfl rfl) rfl ?_
 rintro _ _ ⟨g1, rfl, rfl⟩
 refine O.a rfl rfl <| O.nil <| J.seq <| J.region <| O.a rfl rfl <| O.nil <| J.seq <| J.seq <| J.region <| O.m rfl rfl <| O.nil <| J.block ?_
 refine J.nilRow 3 1 <| J.loop (X := Nat × Value) (fun ξ => ξ.1 ≤ 7) (fun ξ => [(1, .pointer (some ⟨g1, 0, none⟩)), (2, Value.slice none 0 0), (3, ξ.2), (5, .int .i64 (ξ.1 : Int))]) (fun ξ => [var g1 [.int .i64 a, .int .i64 b, .int .i64 c, .int .i64 d, .int .i64 e, .int .i64 f, .int .i64 g] 44, row ξ.2 3 1 (([a, b, c, d, e, f, g].take ξ.1).map encZ)]) (fun ξ => 7 - ξ.1) ⟨0, Value.slice none 0 0⟩ (show 0 ≤ 7 from (by omega)) ⟨rfl, rfl, rfl, (congrArg (fun z => some (Value.int .i64 z)) (by first | rfl | omega : (0 : Int) = (0 : Int))), trivial⟩ [1, 0] (by decide) rfl ?_
 rintro ⟨k, V⟩ hq2
 obtain hk : k ≤ 7 := hq2
 show J _ _ [(1, .pointer (some ⟨g1, 0, none⟩)), (2, Value.slice none 0 0), (3, V), (5, .int .i64 (k : Int))] [var g1 [.int .i64 a, .int .i64 b, .int .i64 c, .int .i64 d, .int .i64 e, .int .i64 f, .int .i64 g] 44, row V 3 1 (([a, b, c, d, e, f, g].take k).map encZ)]
 obtain rfl | rfl | rfl | rfl | rfl | rfl | rfl | rfl : k = 0 ∨ k = 1 ∨ k = 2 ∨ k = 3 ∨ k = 4 ∨ k = 5 ∨ k = 6 ∨ k = 7 := by omega
 ·
  show J _ _ [(1, .pointer (some ⟨g1, 0, none⟩)), (2, Value.slice none 0 0), (3, V), (5, .int .i64 0)] [var g1 [.int .i64 a, .int .i64 b, .int .i64 c, .int .i64 d, .int .i64 e, .int .i64 f, .int .i64 g] 44, row V 3 1 (([a, b, c, d, e, f, g].take 0).map encZ)]
  refine J.seq <| J.region <| O.p (Pu.lss rfl rfl) rfl <| O.nil <| J.seq <| J.condT rfl rfl <| J.skip <| J.seq <| J.block <| J.seq <| J.region <| O.m rfl rfl ?_
  refine O.a rfl rfl <| O.nil <| J.region <| O.m rfl rfl <| O.m rfl rfl <| O.l (Lo.call [.pointer (some ⟨g1, 0, none⟩), .int .i64 0] (by exact call96) rfl (kn_field g1 0 (by first | omega | decide | (simp; done)) (by first | omega | decide | (simp; done))) [] [0, 1] (by decide) rfl [var g1 [.int .i64 a, .int .i64 b, .int .i64 c, .int .i64 d, .int .i64 e, .int .i64 f, .int .i64 g] 44, row V 3 1 (([a, b, c, d, e, f, g].take 0).map encZ)] rfl RoOk.nil) rfl ?_
  rintro _ _ ⟨_, ⟨rfl, rfl⟩, rfl⟩
  refine O.p (Pu.nilCheck rfl) rfl <| O.q (Qt.ld rfl (Cel.var 0 rfl) (o := 0) (off := 0) rfl (Cut.one isAgg3 rfl)) rfl <| O.l (Lo.buildM (s := 1) encZ [a] [(0, .int .i64 a)] (by exact runUnderlying53) (by exact sizeOf3) (by exact zeroValue3) rfl rfl rfl (by kernel_rfl) rfl rfl) rfl ?_
  rintro V4 _ rfl
  refine O.l (Lo.appendM (s := 1) 2 (by exact underlying53) (by exact (info3).1) (by exact (info3).2.1) (by exact (info3).2.2.1) (by exact (info3).2.2.2) rfl rfl rfl rfl rfl (Src.row 0 rfl) encZ.one (by first | omega | decide | (simp; done)) (by first | omega | decide | (simp; done))) rfl ?_
  rintro V5 _ rfl
  refine O.a rfl rfl <| O.nil <| J.blk <| J.region <| O.p (Pu.add' rfl rfl (by first | omega | (simp only [List.length_append, List.length_cons, List.length_nil, List.length_set]; omega))) rfl <| O.m rfl rfl <| O.nil ?_
  exact J.lp ⟨1, V5⟩ (show 1 ≤ 7 from (by omega)) (show 7 - 1 < 7 - 0 from (by first | omega | decide | (simp; done))) ⟨rfl, rfl, rfl, (congrArg (fun z => some (Value.int .i64 z)) (by first | rfl | omega : (0 + 1 : Int) = (1 : Int))), trivial⟩ [1, 2] (by decide) rfl
 ·
  show J _ _ [(1, .pointer (some ⟨g1, 0, none⟩)), (2, Value.slice none 0 0), (3, V), (5, .int .i64 1)] [var g1 [.int .i64 a, .int .i64 b, .int .i64 c, .int .i64 d, .int .i64 e, .int .i64 f, .int .i64 g] 44, row V 3 1 (([a, b, c, d, e, f, g].take 1).map encZ)]
  refine J.seq <| J.region <| O.p (Pu.lss rfl rfl) rfl <| O.nil <| J.seq <| J.condT rfl rfl <| J.skip <| J.seq <| J.block <| J.seq <| J.region <| O.m rfl rfl ?_
  refine O.a rfl rfl <| O.nil <| J.region <| O.m rfl rfl <| O.m rfl rfl <| O.l (Lo.call [.pointer (some ⟨g1, 0, none⟩), .int .i64 1] (by exact call96) rfl (kn_field g1 1 (by first | omega | decide | (simp; done)) (by first | omega | decide | (simp; done))) [] [0, 1] (by decide) rfl [var g1 [.int .i64 a, .int .i64 b, .int .i64 c, .int .i64 d, .int .i64 e, .int .i64 f, .int .i64 g] 44, row V 3 1 (([a, b, c, d, e, f, g].take 1).map encZ)] rfl RoOk.nil) rfl ?_
  rintro _ _ ⟨_, ⟨rfl, rfl⟩, rfl⟩
  refine O.p (Pu.nilCheck rfl) rfl <| O.q (Qt.ld rfl (Cel.var 0 rfl) (o := 0) (off := 1) rfl (Cut.one isAgg3 rfl)) rfl <| O.l (Lo.buildM (s := 1) encZ [b] [(0, .int .i64 b)] (by exact runUnderlying53) (by exact sizeOf3) (by exact zeroValue3) rfl rfl rfl (by kernel_rfl) rfl rfl) rfl ?_
  rintro V7 _ rfl
  refine O.l (Lo.appendM (s := 1) 2 (by exact underlying53) (by exact (info3).1) (by exact (info3).2.1) (by exact (info3).2.2.1) (by exact (info3).2.2.2) rfl rfl rfl rfl rfl (Src.row 0 rfl) encZ.one (by first | omega | decide | (simp; done)) (by first | omega | decide | (simp; done))) rfl ?_
  rintro V8 _ rfl
  refine O.a rfl rfl <| O.nil <| J.blk <| J.region <| O.p (Pu.add' rfl rfl (by first | omega | (simp only [List.length_append, List.length_cons, List.length_nil, List.length_set]; omega))) rfl <| O.m rfl rfl <| O.nil ?_
  exact J.lp ⟨2, V8⟩ (show 2 ≤ 7 from (by omega)) (show 7 - 2 < 7 - 1 from (by first | omega | decide | (simp; done))) ⟨rfl, rfl, rfl, (congrArg (fun z => some (Value.int .i64 z)) (by first | rfl | omega : (1 + 1 : Int) = (2 : Int))), trivial⟩ [1, 2] (by decide) rfl
 ·
  show J _ _ [(1, .pointer (some ⟨g1, 0, none⟩)), (2, Value.slice none 0 0), (3, V), (5, .int .i64 2)] [var g1 [.int .i64 a, .int .i64 b, .int .i64 c, .int .i64 d, .int .i64 e, .int .i64 f, .int .i64 g] 44, row V 3 1 (([a, b, c, d, e, f, g].take 2).map encZ)]
  refine J.seq <| J.region <| O.p (Pu.lss rfl rfl) rfl <| O.nil <| J.seq <| J.condT rfl rfl <| J.skip <| J.seq <| J.block <| J.seq <| J.region <| O.m rfl rfl ?_
  refine O.a rfl rfl <| O.nil <| J.region <| O.m rfl rfl <| O.m rfl rfl <| O.l (Lo.call [.pointer (some ⟨g1, 0, none⟩), .int .i64 2] (by exact call96) rfl (kn_field g1 2 (by first | omega | decide | (simp; done)) (by first | omega | decide | (simp; done))) [] [0, 1] (by decide) rfl [var g1 [.int .i64 a, .int .i64 b, .int .i64 c, .int .i64 d, .int .i64 e, .int .i64 f, .int .i64 g] 44, row V 3 1 (([a, b, c, d, e, f, g].take 2).map encZ)] rfl RoOk.nil) rfl ?_
  rintro _ _ ⟨_, ⟨rfl, rfl⟩, rfl⟩
  refine O.p (Pu.nilCheck rfl) rfl <| O.q (Qt.ld rfl (Cel.var 0 rfl) (o := 0) (off := 2) rfl (Cut.one isAgg3 rfl)) rfl <| O.l (Lo.buildM (s := 1) encZ [c] [(0, .int .i64 c)] (by exact runUnderlying53) (by exact sizeOf3) (by exact zeroValue3) rfl rfl rfl (by kernel_rfl) rfl rfl) rfl ?_
  rintro V10 _ rfl
  refine O.l (Lo.appendM (s := 1) 2 (by exact underlying53) (by exact (info3).1) (by exact (info3).2.1) (by exact (info3).2.2.1) (by exact (info3).2.2.2) rfl rfl rfl rfl rfl (Src.row 0 rfl) encZ.one (by first | omega | decide | (simp; done)) (by first | omega | decide | (simp; done))) rfl ?_
  rintro V11 _ rfl
  refine O.a rfl rfl <| O.nil <| J.blk <| J.region <| O.p (Pu.add' rfl rfl (by first | omega | (simp only [List.length_append, List.length_cons, List.length_nil, List.length_set]; omega))) rfl <| O.m rfl rfl <| O.nil ?_
  exact J.lp ⟨3, V11⟩ (show 3 ≤ 7 from (by omega)) (show 7 - 3 < 7 - 2 from (by first | omega | decide | (simp; done))) ⟨rfl, rfl, rfl, (congrArg (fun z => some (Value.int .i64 z)) (by first | rfl | omega : (2 + 1 : Int) = (3 : Int))), trivial⟩ [1, 2] (by decide) rfl
 ·
  show J _ _ [(1, .pointer (some ⟨g1, 0, none⟩)), (2, Value.slice none 0 0), (3, V), (5, .int .i64 3)] [var g1 [.int .i64 a, .int .i64 b, .int .i64 c, .int .i64 d, .int .i64 e, .int .i64 f, .int .i64 g] 44, row V 3 1 (([a, b, c, d, e, f, g].take 3).map encZ)]
  refine J.seq <| J.region <| O.p (Pu.lss rfl rfl) rfl <| O.nil <| J.seq <| J.condT rfl rfl <| J.skip <| J.seq <| J.block <| J.seq <| J.region <| O.m rfl rfl ?_
  refine O.a rfl rfl <| O.nil <| J.region <| O.m rfl rfl <| O.m rfl rfl <| O.l (Lo.call [.pointer (some ⟨g1, 0, none⟩), .int .i64 3] (by exact call96) rfl (kn_field g1 3 (by first | omega | decide | (simp; done)) (by first | omega | decide | (simp; done))) [] [0, 1] (by decide) rfl [var g1 [.int .i64 a, .int .i64 b, .int .i64 c, .int .i64 d, .int .i64 e, .int .i64 f, .int .i64 g] 44, row V 3 1 (([a, b, c, d, e, f, g].take 3).map encZ)] rfl RoOk.nil) rfl ?_
  rintro _ _ ⟨_, ⟨rfl, rfl⟩, rfl⟩
  refine O.p (Pu.nilCheck rfl) rfl <| O.q (Qt.ld rfl (Cel.var 0 rfl) (o := 0) (off := 3) rfl (Cut.one isAgg3 rfl)) rfl <| O.l (Lo.buildM (s := 1) encZ [d] [(0, .int .i64 d)] (by exact runUnderlying53) (by exact sizeOf3) (by exact zeroValue3) rfl rfl rfl (by kernel_rfl) rfl rfl) rfl ?_
  rintro V13 _ rfl
  refine O.l (Lo.appendM (s := 1) 2 (by exact underlying53) (by exact (info3).1) (by exact (info3).2.1) (by exact (info3).2.2.1) (by exact (info3).2.2.2) rfl rfl rfl rfl rfl (Src.row 0 rfl) encZ.one (by first | omega | decide | (simp; done)) (by first | omega | decide | (simp; done))) rfl ?_
  rintro V14 _ rfl
  refine O.a rfl rfl <| O.nil <| J.blk <| J.region <| O.p (Pu.add' rfl rfl (by first | omega | (simp only [List.length_append, List.length_cons, List.length_nil, List.length_set]; omega))) rfl <| O.m rfl rfl <| O.nil ?_
  exact J.lp ⟨4, V14⟩ (show 4 ≤ 7 from (by omega)) (show 7 - 4 < 7 - 3 from (by first | omega | decide | (simp; done))) ⟨rfl, rfl, rfl, (congrArg (fun z => some (Value.int .i64 z)) (by first | rfl | omega : (3 + 1 : Int) = (4 : Int))), trivial⟩ [1, 2] (by decide) rfl
 ·
  show J _ _ [(1, .pointer (some ⟨g1, 0, none⟩)), (2, Value.slice none 0 0), (3, V), (5, .int .i64 4)] [var g1 [.int .i64 a, .int .i64 b, .int .i64 c, .int .i64 d, .int .i64 e, .int .i64 f, .int .i64 g] 44, row V 3 1 (([a, b, c, d, e, f, g].take 4).map encZ)]
  refine J.seq <| J.region <| O.p (Pu.lss rfl rfl) rfl <| O.nil <| J.seq <| J.condT rfl rfl <| J.skip <| J.seq <| J.block <| J.seq <| J.region <| O.m rfl rfl ?_
  refine O.a rfl rfl <| O.nil <| J.region <| O.m rfl rfl <| O.m rfl rfl <| O.l (Lo.call [.pointer (some ⟨g1, 0, none⟩), .int .i64 4] (by exact call96) rfl (kn_field g1 4 (by first | omega | decide | (simp; done)) (by first | omega | decide | (simp; done))) [] [0, 1] (by decide) rfl [var g1 [.int .i64 a, .int .i64 b, .int .i64 c, .int .i64 d, .int .i64 e, .int .i64 f, .int .i64 g] 44, row V 3 1 (([a, b, c, d, e, f, g].take 4).map encZ)] rfl RoOk.nil) rfl ?_
  rintro _ _ ⟨_, ⟨rfl, rfl⟩, rfl⟩
  refine O.p (Pu.nilCheck rfl) rfl <| O.q (Qt.ld rfl (Cel.var 0 rfl) (o := 0) (off := 4) rfl (Cut.one isAgg3 rfl)) rfl <| O.l (Lo.buildM (s := 1) encZ [e] [(0, .int .i64 e)] (by exact runUnderlying53) (by exact sizeOf3) (by exact zeroValue3) rfl rfl rfl (by kernel_rfl) rfl rfl) rfl ?_
  rintro V16 _ rfl
  refine O.l (Lo.appendM (s := 1) 2 (by exact underlying53) (by exact (info3).1) (by exact (info3).2.1) (by exact (info3).2.2.1) (by exact (info3).2.2.2) rfl rfl rfl rfl rfl (Src.row 0 rfl) encZ.one (by first | omega | decide | (simp; done)) (by first | omega | decide | (simp; done))) rfl ?_
  rintro V17 _ rfl
  refine O.a rfl rfl <| O.nil <| J.blk <| J.region <| O.p (Pu.add' rfl rfl (by first | omega | (simp only [List.length_append, List.length_cons, List.length_nil, List.length_set]; omega))) rfl <| O.m rfl rfl <| O.nil ?_
  exact J.lp ⟨5, V17⟩ (show 5 ≤ 7 from (by omega)) (show 7 - 5 < 7 - 4 from (by first | omega | decide | (simp; done))) ⟨rfl, rfl, rfl, (congrArg (fun z => some (Value.int .i64 z)) (by first | rfl | omega : (4 + 1 : Int) = (5 : Int))), trivial⟩ [1, 2] (by decide) rfl
 ·
  show J _ _ [(1, .pointer (some ⟨g1, 0, none⟩)), (2, Value.slice none 0 0), (3, V), (5, .int .i64 5)] [var g1 [.int .i64 a, .int .i64 b, .int .i64 c, .int .i64 d, .int .i64 e, .int .i64 f, .int .i64 g] 44, row V 3 1 (([a, b, c, d, e, f, g].take 5).map encZ)]
  refine J.seq <| J.region <| O.p (Pu.lss rfl rfl) rfl <| O.nil <| J.seq <| J.condT rfl rfl <| J.skip <| J.seq <| J.block <| J.seq <| J.region <| O.m rfl rfl ?_
  refine O.a rfl rfl <| O.nil <| J.region <| O.m rfl rfl <| O.m rfl rfl <| O.l (Lo.call [.pointer (some ⟨g1, 0, none⟩), .int .i64 5] (by exact call96) rfl (kn_field g1 5 (by first | omega | decide | (simp; done)) (by first | omega | decide | (simp; done))) [] [0, 1] (by decide) rfl [var g1 [.int .i64 a, .int .i64 b, .int .i64 c, .int .i64 d, .int .i64 e, .int .i64 f, .int .i64 g] 44, row V 3 1 (([a, b, c, d, e, f, g].take 5).map encZ)] rfl RoOk.nil) rfl ?_
  rintro _ _ ⟨_, ⟨rfl, rfl⟩, rfl⟩
  refine O.p (Pu.nilCheck rfl) rfl <| O.q (Qt.ld rfl (Cel.var 0 rfl) (o := 0) (off := 5) rfl (Cut.one isAgg3 rfl)) rfl <| O.l (Lo.buildM (s := 1) encZ [f] [(0, .int .i64 f)] (by exact runUnderlying53) (by exact sizeOf3) (by exact zeroValue3) rfl rfl rfl (by kernel_rfl) rfl rfl) rfl ?_
  rintro V19 _ rfl
  refine O.l (Lo.appendM (s := 1) 2 (by exact underlying53) (by exact (info3).1) (by exact (info3).2.1) (by exact (info3).2.2.1) (by exact (info3).2.2.2) rfl rfl rfl rfl rfl (Src.row 0 rfl) encZ.one (by first | omega | decide | (simp; done)) (by first | omega | decide | (simp; done))) rfl ?_
  rintro V20 _ rfl
  refine O.a rfl rfl <| O.nil <| J.blk <| J.region <| O.p (Pu.add' rfl rfl (by first | omega | (simp only [List.length_append, List.length_cons, List.length_nil, List.length_set]; omega))) rfl <| O.m rfl rfl <| O.nil ?_
  exact J.lp ⟨6, V20⟩ (show 6 ≤ 7 from (by omega)) (show 7 - 6 < 7 - 5 from (by first | omega | decide | (simp; done))) ⟨rfl, rfl, rfl, (congrArg (fun z => some (Value.int .i64 z)) (by first | rfl | omega : (5 + 1 : Int) = (6 : Int))), trivial⟩ [1, 2] (by decide) rfl
 ·
  show J _ _ [(1, .pointer (some ⟨g1, 0, none⟩)), (2, Value.slice none 0 0), (3, V), (5, .int .i64 6)] [var g1 [.int .i64 a, .int .i64 b, .int .i64 c, .int .i64 d, .int .i64 e, .int .i64 f, .int .i64 g] 44, row V 3 1 (([a, b, c, d, e, f, g].take 6).map encZ)]
  refine J.seq <| J.region <| O.p (Pu.lss rfl rfl) rfl <| O.nil <| J.seq <| J.condT rfl rfl <| J.skip <| J.seq <| J.block <| J.seq <| J.region <| O.m rfl rfl ?_
  refine O.a rfl rfl <| O.nil <| J.region <| O.m rfl rfl <| O.m rfl rfl <| O.l (Lo.call [.pointer (some ⟨g1, 0, none⟩), .int .i64 6] (by exact call96) rfl (kn_field g1 6 (by first | omega | decide | (simp; done)) (by first | omega | decide | (simp; done))) [] [0, 1] (by decide) rfl [var g1 [.int .i64 a, .int .i64 b, .int .i64 c, .int .i64 d, .int .i64 e, .int .i64 f, .int .i64 g] 44, row V 3 1 (([a, b, c, d, e, f, g].take 6).map encZ)] rfl RoOk.nil) rfl ?_
  rintro _ _ ⟨_, ⟨rfl, rfl⟩, rfl⟩
  refine O.p (Pu.nilCheck rfl) rfl <| O.q (Qt.ld rfl (Cel.var 0 rfl) (o := 0) (off := 6) rfl (Cut.one isAgg3 rfl)) rfl <| O.l (Lo.buildM (s := 1) encZ [g] [(0, .int .i64 g)] (by exact runUnderlying53) (by exact sizeOf3) (by exact zeroValue3) rfl rfl rfl (by kernel_rfl) rfl rfl) rfl ?_
  rintro V22 _ rfl
  refine O.l (Lo.appendM (s := 1) 2 (by exact underlying53) (by exact (info3).1) (by exact (info3).2.1) (by exact (info3).2.2.1) (by exact (info3).2.2.2) rfl rfl rfl rfl rfl (Src.row 0 rfl) encZ.one (by first | omega | decide | (simp; done)) (by first | omega | decide | (simp; done))) rfl ?_
  rintro V23 _ rfl
  refine O.a rfl rfl <| O.nil <| J.blk <| J.region <| O.p (Pu.add' rfl rfl (by first | omega | (simp only [List.length_append, List.length_cons, List.length_nil, List.length_set]; omega))) rfl <| O.m rfl rfl <| O.nil ?_
  exact J.lp ⟨7, V23⟩ (show 7 ≤ 7 from (by omega)) (show 7 - 7 < 7 - 6 from (by first | omega | decide | (simp; done))) ⟨rfl, rfl, rfl, (congrArg (fun z => some (Value.int .i64 z)) (by first | rfl | omega : (6 + 1 : Int) = (7 : Int))), trivial⟩ [1, 2] (by decide) rfl
 ·
  show J _ _ [(1, .pointer (some ⟨g1, 0, none⟩)), (2, Value.slice none 0 0), (3, V), (5, .int .i64 7)] [var g1 [.int .i64 a, .int .i64 b, .int .i64 c, .int .i64 d, .int .i64 e, .int .i64 f, .int .i64 g] 44, row V 3 1 (([a, b, c, d, e, f, g].take 7).map encZ)]
  refine J.seq <| J.region <| O.p (Pu.lss rfl rfl) rfl <| O.nil <| J.seq <| J.condF rfl rfl <| J.exit _ rfl <| J.seq <| J.region <| O.m rfl rfl <| O.a rfl rfl <| O.nil ?_
  exact J.ret (Fin.ret (rs := [.tmp 2]) rfl [_] ⟨rfl, trivial⟩ [1] (by decide) [row V 3 1 (([a, b, c, d, e, f, g].take 7).map encZ)] rfl rfl)

set_option maxRecDepth 100000 in
theorem r18_Values (a b c d e f g : Int) : Tri prog 92 #[.agg #[.int .i64 a, .int .i64 b, .int .i64 c, .int .i64 d, .int .i64 e, .int .i64 f, .int .i64 g]] [] [] (fun v L' => L' = [row v 3 1 ([a, b, c, d, e, f, g].map encZ)]) := by
 refine Tri.enter (args := [.agg #[.int .i64 a, .int .i64 b, .int .i64 c, .int .i64 d, .int .i64 e, .int .i64 f, .int .i64 g]]) (body := _) 18 func92 rfl ntmps92 rfl ?_
 intro w0
 refine J.seq <| J.region <| O.l (Lo.box [.int .i64 a, .int .i64 b, .int .i64 c, .int .i64 d, .int .i64 e, .int .i64 f, .int .i64 g] rfl rfl) rfl ?_
 rintro _ _ ⟨g1, rfl, rfl⟩
 refine O.a rfl rfl <| O.nil <| J.seq <| J.region <| O.p (Pu.fieldAddr (off' := 0) runUnderlying44 rfl sizeOf3 rfl rfl rfl) rfl <| O.q (Qt.ld rfl (Cel.var 0 rfl) (o := 0) (off := 0) rfl (Cut.one isAgg3 rfl)) rfl <| O.p (Pu.fieldAddr (off' := 1) runUnderlying44 rfl sizeOf3 rfl rfl rfl) rfl <| O.q (Qt.ld rfl (Cel.var 0 rfl) (o := 0) (off := 1) rfl (Cut.one isAgg3 rfl)) rfl <| O.p (Pu.fieldAddr (off' := 2) runUnderlying44 rfl sizeOf3 rfl rfl rfl) rfl <| O.q (Qt.ld rfl (Cel.var 0 rfl) (o := 0) (off := 2) rfl (Cut.one isAgg3 rfl)) rfl <| O.p (Pu.fieldAddr (off' := 3) runUnderlying44 rfl sizeOf3 rfl rfl rfl) rfl <| O.q (Qt.ld rfl (Cel.var 0 rfl) (o := 0) (off := 3) rfl (Cut.one isAgg3 rfl)) rfl ?_
 refine O.p (Pu.fieldAddr (off' := 4) runUnderlying44 rfl sizeOf3 rfl rfl rfl) rfl <| O.q (Qt.ld rfl (Cel.var 0 rfl) (o := 0) (off := 4) rfl (Cut.one isAgg3 rfl)) rfl <| O.p (Pu.fieldAddr (off' := 5) runUnderlying44 rfl sizeOf3 rfl rfl rfl) rfl <| O.q (Qt.ld rfl (Cel.var 0 rfl) (o := 0) (off := 5) rfl (Cut.one isAgg3 rfl)) rfl <| O.p (Pu.fieldAddr (off' := 6) runUnderlying44 rfl sizeOf3 rfl rfl rfl) rfl <| O.q (Qt.ld rfl (Cel.var 0 rfl) (o := 0) (off := 6) rfl (Cut.one isAgg3 rfl)) rfl <| O.l (Lo.buildM (s := 1) encZ [a, b, c, d, e, f, g] [(0, .int .i64 a), (1, .int .i64 b), (2, .int .i64 c), (3, .int .i64 d), (4, .int .i64 e), (5, .int .i64 f), (6, .int .i64 g)] (by exact runUnderlying53) (by exact sizeOf3) (by exact zeroValue3) rfl rfl rfl (by kernel_rfl) rfl rfl) rfl ?_
 rintro V2 _ rfl
 refine O.a rfl rfl <| O.nil ?_
 exact J.ret (Fin.ret (rs := [.tmp 2]) rfl [_] ⟨rfl, trivial⟩ [0] (by decide) [row V2 3 1 (([a, b, c, d, e, f, g]).map encZ)] rfl rfl)

set_option maxRecDepth 100000 in
theorem kn_Names  : Tri prog 104 #[] [var 1 (Kn.names.map vS) 144] [] (fun v L' => L' = [row v 9 1 (Kn.names.map encS)]) := by
 refine Tri.enter (args := []) (body := _) 4 func104 rfl ntmps104 rfl ?_
 intro w0
 refine J.seq <| J.region <| O.a rfl rfl <| O.nil <| J.seq <| J.region <| O.l (Lo.buildE encS (by exact runUnderlying72) (by exact sizeOf9)) rfl ?_
 rintro V1 _ rfl
 refine O.p (Pu.wholeArr runUnderlying144 sizeOf9 rfl) rfl <| O.l (Lo.appendM (s := 1) 0 (by exact underlying72) (by exact (info9).1) (by exact (info9).2.1) (by exact (info9).2.2.1) (by exact (info9).2.2.2) rfl rfl rfl rfl rfl (Src.wholeRo 0 rfl (by rfl) (by decide)) encS.one (by decide) (by decide)) rfl ?_
 rintro V2 _ rfl
 refine O.a rfl rfl <| O.nil ?_
 exact J.ret (Fin.ret (rs := [.tmp 0]) rfl [_] ⟨rfl, trivial⟩ [0] (by decide) [row V2 9 1 ((([] : List (List UInt8)) ++ Kn.names).map encS)] rfl rfl)

end Go.Proofs.YtnhfgnnpbipcnaaGreatDoor
