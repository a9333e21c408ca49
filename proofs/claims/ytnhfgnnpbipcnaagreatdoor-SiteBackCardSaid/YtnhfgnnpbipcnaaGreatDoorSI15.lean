/-
  Walks, printed by a program of mine (lk.py): each function meets its contract.
-/
import Derived.KernelRfl
import Derived.Test.YtnhfgnnpbipcnaaGreatDoorSI14
namespace Go.Proofs.YtnhfgnnpbipcnaaGreatDoor
open Go Go.LK Go.Proofs.Tryz
set_option linter.unusedSimpArgs false

set_option maxRecDepth 100000 in
set_option maxHeartbeats 4000000 in
theorem law30_siteBack (b c r : Int) (n : Nat) (sv : Value) (l : List Sg) (rem : Wd.Bs) (hI : Si.okS l) (hI3 : Kn.I64s [b, c, r]) (hn : n < 18446744073709551616) : Tri prog 5 #[.agg #[.int .i64 b, .int .i64 c, .int .i64 r, .int .u64 (Nat.cast n : Int), sv], str rem] [libW, var 0 (Hx.hexDigits.map valU8) 101, var 1 (Kn.names.map vS) 144, rd sv 14 (l.map Sg.cells), ros (l.map Sg.rd)] [] (fun v L' => v = .bool true ∧ L' = []) := by
 refine Tri.enter (args := [.agg #[.int .i64 b, .int .i64 c, .int .i64 r, .int .u64 (Nat.cast n : Int), sv], str rem]) (body := _) 81 func5 rfl ntmps5 rfl ?_
 intro w0
 refine J.seq <| J.region ?_
 refine O.one (Src.ro 3 rfl) (fun hV2 => ?_)
 refine O.l (Lo.box [.int .i64 b, .int .i64 c, .int .i64 r, .int .u64 (Nat.cast n : Int), sv] rfl rfl) rfl ?_
 rintro _ _ ⟨g1, rfl, rfl⟩
 refine O.a rfl rfl <| O.nil <| J.seq <| J.seq <| J.region <| O.q (Qt.ld rfl (Cel.var 0 rfl) (o := 0) (off := 0) rfl (Cut.agg [.int .i64 b, .int .i64 c, .int .i64 r, .int .u64 (Nat.cast n : Int), sv] isAgg25 sizeOf25 rfl rfl)) rfl <| O.l (Lo.call [.agg #[.int .i64 b, .int .i64 c, .int .i64 r, .int .u64 (Nat.cast n : Int), sv]] (by exact call7) rfl (l30_few b c r n sv l) [] [0] (by decide) rfl [var g1 [.int .i64 b, .int .i64 c, .int .i64 r, .int .u64 (Nat.cast n : Int), sv] 25] rfl (RoOk.ro 3 rfl [] rfl (RoOk.ro 4 rfl [] rfl RoOk.nil))) rfl ?_
 rintro _ _ ⟨_, ⟨q3, rfl, hf4, rfl⟩, rfl⟩
 refine O.p (Pu.not rfl) rfl <| O.m rfl rfl ?_
 refine by_bool (!q3) (fun h6 => ?_) (fun h6 => ?_)
 ·
  have h7 : q3 = false := not_flip h6
  refine O.gskip (t := 16) rfl rfl (no_bool (by rw [h6]; decide)) rfl rfl <| O.gskip (t := 16) rfl rfl (no_bool (by rw [h6]; decide)) rfl rfl <| O.gskip (t := 16) rfl rfl (no_bool (by rw [h6]; decide)) rfl rfl <| O.p (Pu.pickT rfl h6 rfl) rfl <| O.nil <| J.condT rfl rfl <| J.seq <| J.region <| O.l (Lo.call [] (by exact call8) rfl law30_awake [] [0] (by decide) rfl [var g1 [.int .i64 b, .int .i64 c, .int .i64 r, .int .u64 (Nat.cast n : Int), sv] 25] rfl (RoOk.ro 0 rfl [] rfl (RoOk.ro 1 rfl [] rfl (RoOk.ro 2 rfl [] rfl RoOk.nil)))) rfl ?_
  rintro _ _ ⟨_, ⟨rfl, rfl⟩, rfl⟩
  refine O.a rfl rfl <| O.nil ?_
  exact J.ret (Fin.ret (rs := [.tmp 4]) rfl [_] ⟨rfl, trivial⟩ [] (by decide) [] rfl ⟨rfl, rfl⟩)
 ·
  have h9 : q3 = true := not_flip h6
  refine O.gq (t := 16) rfl rfl h6 rfl (Pu.qt (Pu.move rfl)) rfl <| O.gq (t := 16) rfl rfl h6 rfl (Pu.qt (Pu.sLen runUnderlying9 rfl)) rfl <| O.gq (t := 16) rfl rfl h6 rfl (Pu.qt (Pu.gtr rfl rfl)) rfl <| O.p (Pu.pickF rfl h6 rfl) rfl <| O.nil ?_
  refine J.cond rfl (fun h10 => ?_) (fun h10 => ?_)
  ·
   have p11 := of_decide_eq_true h10
   refine J.seq <| J.region <| O.l (Lo.call [] (by exact call8) rfl law30_awake [] [0] (by decide) rfl [var g1 [.int .i64 b, .int .i64 c, .int .i64 r, .int .u64 (Nat.cast n : Int), sv] 25] rfl (RoOk.ro 0 rfl [] rfl (RoOk.ro 1 rfl [] rfl (RoOk.ro 2 rfl [] rfl RoOk.nil)))) rfl ?_
   rintro _ _ ⟨_, ⟨rfl, rfl⟩, rfl⟩
   refine O.a rfl rfl <| O.nil ?_
   exact J.ret (Fin.ret (rs := [.tmp 4]) rfl [_] ⟨rfl, trivial⟩ [] (by decide) [] rfl ⟨rfl, rfl⟩)
  ·
   have p13 := of_decide_eq_false h10
   refine J.skip <| J.seq <| J.seq <| J.region <| O.a rfl rfl <| O.nil <| J.block <| J.loop (X := Nat) (fun ξ => ξ ≤ rem.length ∧ Wd.noB 10 rem ξ) (fun ξ => [(1, str rem), (2, .pointer (some ⟨g1, 0, none⟩)), (5, .int .i64 (ξ : Int))]) (fun ξ => [var g1 [.int .i64 b, .int .i64 c, .int .i64 r, .int .u64 (Nat.cast n : Int), sv] 25]) (fun ξ => rem.length - ξ) 0 (show 0 ≤ rem.length ∧ Wd.noB 10 rem 0 from ⟨by omega, Wd.noB_zero⟩) ⟨rfl, rfl, (congrArg (fun z => some (Value.int .i64 z)) (by first | rfl | omega : (0 : Int) = (0 : Int))), trivial⟩ [0] (by decide) rfl ?_
   rintro k hq14
   obtain ⟨hk, hN⟩ : k ≤ rem.length ∧ Wd.noB 10 rem k := hq14
   show J _ _ [(1, str rem), (2, .pointer (some ⟨g1, 0, none⟩)), (5, .int .i64 (k : Int))] [var g1 [.int .i64 b, .int .i64 c, .int .i64 r, .int .u64 (Nat.cast n : Int), sv] 25]
   refine J.seq <| J.seq <| J.region <| O.m rfl rfl <| O.m rfl rfl <| O.p (Pu.sLen runUnderlying9 rfl) rfl <| O.p (Pu.lss rfl rfl) rfl <| O.nil ?_
   refine J.cond rfl (fun h15 => ?_) (fun h15 => ?_)
   ·
    have p16 := of_decide_eq_true h15
    refine J.skip <| J.seq <| J.block <| J.seq <| J.region <| O.m rfl rfl <| O.m rfl rfl ?_
    obtain ⟨b17, hb18⟩ : ∃ x_, rem[((k : Int) : Int).toNat]? = some x_ := ⟨_, List.getElem?_eq_getElem (by omega)⟩
    refine O.p (Pu.sIdx runUnderlying9 rfl rfl (by omega) hb18) rfl <| O.p (Pu.eql rfl rfl) rfl <| O.nil ?_
    refine J.cond rfl (fun h19 => ?_) (fun h19 => ?_)
    ·
     have p20 := of_decide_eq_true h19
     refine J.seq <| J.region <| O.l (Lo.call [] (by exact call8) rfl law30_awake [] [0] (by decide) rfl [var g1 [.int .i64 b, .int .i64 c, .int .i64 r, .int .u64 (Nat.cast n : Int), sv] 25] rfl (RoOk.ro 0 rfl [] rfl (RoOk.ro 1 rfl [] rfl (RoOk.ro 2 rfl [] rfl RoOk.nil)))) rfl ?_
     rintro _ _ ⟨_, ⟨rfl, rfl⟩, rfl⟩
     refine O.a rfl rfl <| O.nil ?_
     exact J.ret (Fin.ret (rs := [.tmp 4]) rfl [_] ⟨rfl, trivial⟩ [] (by decide) [] rfl ⟨rfl, rfl⟩)
    ·
     have p22 := of_decide_eq_false h19
     refine J.skip <| J.blk <| J.region <| O.m rfl rfl <| O.p (Pu.add' rfl rfl (by omega)) rfl <| O.a rfl rfl <| O.nil ?_
     exact J.lp (k + 1) (show (k + 1) ≤ rem.length ∧ Wd.noB 10 rem (k + 1) from ⟨by omega, Wd.noB_next hN hb18 (Si.ne_ten ‹_›)⟩) (show rem.length - (k + 1) < rem.length - k from (by omega)) ⟨rfl, rfl, (congrArg (fun z => some (Value.int .i64 z)) (by first | rfl | omega : ((k : Int) + 1 : Int) = ((k + 1) : Int))), trivial⟩ [0] (by decide) rfl
   ·
    have p23 := of_decide_eq_false h15
    refine J.exit _ rfl <| J.seq ?_
    have hfw := hf4 ‹_›
    refine J.region <| O.q (Qt.ld rfl (Cel.var 0 rfl) (o := 0) (off := 0) rfl (Cut.agg [.int .i64 b, .int .i64 c, .int .i64 r, .int .u64 (Nat.cast n : Int), sv] isAgg25 sizeOf25 rfl rfl)) rfl <| O.l (Lo.call [.agg #[.int .i64 b, .int .i64 c, .int .i64 r, .int .u64 (Nat.cast n : Int), sv]] (by exact call16) rfl (si_Text b c r n sv l hfw.1 hfw.2 hI hI3 hn) [] [0] (by decide) rfl [var g1 [.int .i64 b, .int .i64 c, .int .i64 r, .int .u64 (Nat.cast n : Int), sv] 25] rfl (RoOk.ro 0 rfl [] rfl (RoOk.ro 2 rfl [] rfl (RoOk.ro 1 rfl [] rfl (RoOk.ro 3 rfl [] rfl (RoOk.ro 4 rfl [] rfl RoOk.nil)))))) rfl ?_
    rintro _ _ ⟨_, ⟨rfl, rfl⟩, rfl⟩
    refine O.a rfl rfl <| O.nil <| J.seq <| J.region <| O.m rfl rfl <| O.l (Lo.call [str (Si.text b c r n l)] (by exact call19) rfl (si_Parse (Si.text b c r n l)) [] [0] (by decide) rfl [var g1 [.int .i64 b, .int .i64 c, .int .i64 r, .int .u64 (Nat.cast n : Int), sv] 25] rfl (RoOk.ro 0 rfl [] rfl (RoOk.ro 1 rfl [] rfl (RoOk.ro 2 rfl [] rfl RoOk.nil)))) rfl ?_
    rintro _ _ ⟨_, ⟨b25, c25, r25, key25, sv25, l25, n25, e25, rfl, hp25, hb25, rfl⟩, rfl⟩
    have hsm25 := Si.same_parse hp25 (Si.parse_back (by have h_ := Si.text_len (n := n) hI3 hI hfw; omega) hI3 hn hI)
    refine O.m rfl rfl <| O.p (Pu.extract rfl rfl) rfl <| O.p (Pu.extract rfl rfl) rfl <| O.p (Pu.extract rfl rfl) rfl <| O.l (Lo.alloc [.int .i64 0, .int .i64 0, .int .i64 0, .int .u64 0, Value.slice none 0 0] (by exact zeroValue25) rfl) rfl ?_
    rintro _ _ ⟨g27, rfl, rfl⟩
    refine O.one (Src.row 1 rfl) (fun hV28 => ?_)
    refine O.l0 (Lo.store 0 (vs := [.int .i64 b25, .int .i64 c25, .int .i64 r25, .int .u64 (Nat.cast key25 : Int), sv25]) [.int .i64 b25, .int .i64 c25, .int .i64 r25, .int .u64 (Nat.cast key25 : Int), sv25] rfl rfl rfl (by exact sizeOf25) rfl rfl (by simp only [List.all_cons, List.all_nil, Bool.and_true, hV28] <;> rfl) rfl rfl) ?_
    rintro _ _ rfl
    refine O.a rfl rfl <| O.a rfl rfl <| O.nil <| J.seq <| J.region <| O.m rfl rfl <| O.p (Pu.sAdd rfl rfl (by have h_ := Si.text_len (n := n) hI3 hI hfw; simp only [List.length_append, List.length_cons, List.length_nil]; omega)) rfl <| O.p (Pu.sAdd rfl rfl (by have h_ := Si.text_len (n := n) hI3 hI hfw; simp only [List.length_append, List.length_cons, List.length_nil]; omega)) rfl <| O.m rfl rfl <| O.p (Pu.sAdd rfl rfl (by have h_ := Si.text_len (n := n) hI3 hI hfw; simp only [List.length_append, List.length_cons, List.length_nil]; omega)) rfl <| O.p (Pu.sAdd rfl rfl (by have h_ := Si.text_len (n := n) hI3 hI hfw; simp only [List.length_append, List.length_cons, List.length_nil]; omega)) rfl <| O.m rfl rfl ?_
    refine O.p (Pu.sAdd rfl rfl (by have h_ := Si.text_len (n := n) hI3 hI hfw; simp only [List.length_append, List.length_cons, List.length_nil]; omega)) rfl <| O.l (Lo.call [str (((((([10, 32, 35]) ++ rem) ++ ([10, 9, 32])) ++ (Si.text b c r n l)) ++ ([32, 9, 35])) ++ rem)] (by exact call19) rfl (si_Parse (((((([10, 32, 35]) ++ rem) ++ ([10, 9, 32])) ++ (Si.text b c r n l)) ++ ([32, 9, 35])) ++ rem)) [] [0, 1, 2, 3] (by decide) rfl [var g27 [.int .i64 b25, .int .i64 c25, .int .i64 r25, .int .u64 (Nat.cast key25 : Int), sv25] 25, row sv25 47 14 (l25.map Sg.cells), bun (l25.map (Sg.row 50)), var g1 [.int .i64 b, .int .i64 c, .int .i64 r, .int .u64 (Nat.cast n : Int), sv] 25] rfl (RoOk.ro 0 rfl [] rfl (RoOk.ro 1 rfl [] rfl (RoOk.ro 2 rfl [] rfl RoOk.nil)))) rfl ?_
    rintro _ _ ⟨_, ⟨b29, c29, r29, key29, sv29, l29, n29, e29, rfl, hp29, hb29, rfl⟩, rfl⟩
    have hsm29 := Si.same_parse hp29 (Si.parse_more (Si.noNl_of hN (by omega)) (by have h_ := Si.text_len (n := n) hI3 hI hfw; simp only [Si.more, List.length_append, List.length_cons, List.length_nil]; omega) hI3 hn hI)
    refine O.m rfl rfl <| O.p (Pu.extract rfl rfl) rfl <| O.p (Pu.extract rfl rfl) rfl <| O.p (Pu.extract rfl rfl) rfl <| O.l (Lo.alloc [.int .i64 0, .int .i64 0, .int .i64 0, .int .u64 0, Value.slice none 0 0] (by exact zeroValue25) rfl) rfl ?_
    rintro _ _ ⟨g31, rfl, rfl⟩
    refine O.one (Src.row 1 rfl) (fun hV32 => ?_)
    refine O.l0 (Lo.store 0 (vs := [.int .i64 b29, .int .i64 c29, .int .i64 r29, .int .u64 (Nat.cast key29 : Int), sv29]) [.int .i64 b29, .int .i64 c29, .int .i64 r29, .int .u64 (Nat.cast key29 : Int), sv29] rfl rfl rfl (by exact sizeOf25) rfl rfl (by simp only [List.all_cons, List.all_nil, Bool.and_true, hV32] <;> rfl) rfl rfl) ?_
    rintro _ _ rfl
    refine O.a rfl rfl <| O.a rfl rfl <| O.nil <| J.seq <| J.region <| O.q (Qt.ld rfl (Cel.var 3 rfl) (o := 0) (off := 0) rfl (Cut.agg [.int .i64 b25, .int .i64 c25, .int .i64 r25, .int .u64 (Nat.cast key25 : Int), sv25] isAgg25 sizeOf25 rfl rfl)) rfl <| O.q (Qt.ld rfl (Cel.var 6 rfl) (o := 0) (off := 0) rfl (Cut.agg [.int .i64 b, .int .i64 c, .int .i64 r, .int .u64 (Nat.cast n : Int), sv] isAgg25 sizeOf25 rfl rfl)) rfl <| O.l (Lo.call [.agg #[.int .i64 b25, .int .i64 c25, .int .i64 r25, .int .u64 (Nat.cast key25 : Int), sv25], .agg #[.int .i64 b, .int .i64 c, .int .i64 r, .int .u64 (Nat.cast n : Int), sv]] (by exact call10) rfl (r30_Same b25 c25 r25 key25 sv25 l25 b c r n sv l (by have h_ := (hb25).1; omega) (fun s_ hs_ => by have h_ := (hb25).2 s_ hs_; omega) (by have h_ := (hfw).1; omega) (fun s_ hs_ => by have h_ := (hfw).2 s_ hs_; omega)) [] [0, 1, 2, 3, 4, 5, 6] (by decide) rfl [var g31 [.int .i64 b29, .int .i64 c29, .int .i64 r29, .int .u64 (Nat.cast key29 : Int), sv29] 25, row sv29 47 14 (l29.map Sg.cells), bun (l29.map (Sg.row 50)), var g27 [.int .i64 b25, .int .i64 c25, .int .i64 r25, .int .u64 (Nat.cast key25 : Int), sv25] 25, row sv25 47 14 (l25.map Sg.cells), bun (l25.map (Sg.row 50)), var g1 [.int .i64 b, .int .i64 c, .int .i64 r, .int .u64 (Nat.cast n : Int), sv] 25] rfl (RoOk.of 4 rfl row_rd [] (by decide) rfl (RoOk.of 5 rfl sg_ros [] (by decide) rfl (RoOk.ro 3 rfl [] rfl (RoOk.ro 4 rfl [] rfl RoOk.nil))))) rfl ?_
    rintro _ _ ⟨_, ⟨rfl, rfl⟩, rfl⟩
    refine O.m rfl rfl <| O.gq (t := 57) rfl rfl hsm25.1 rfl (Pu.qt (Pu.move rfl)) rfl <| O.gq (t := 57) rfl rfl hsm25.1 rfl (Pu.qt (Pu.eql rfl rfl)) rfl <| O.p (Pu.pickT rfl hsm25.1 rfl) rfl <| O.m rfl rfl <| O.gq (t := 61) rfl rfl (decide_eq_true hsm25.2.1) rfl (Pu.qt (Pu.move rfl)) rfl <| O.gq (t := 61) rfl rfl (decide_eq_true hsm25.2.1) rfl (Pu.qt (Pu.eql rfl rfl)) rfl <| O.p (Pu.pickT rfl (decide_eq_true hsm25.2.1) rfl) rfl <| O.m rfl rfl <| O.gq (t := 65) rfl rfl (decide_eq_true hsm25.2.2) rfl (Qt.ld rfl (Cel.var 0 rfl) (o := 0) (off := 0) rfl (Cut.agg [.int .i64 b29, .int .i64 c29, .int .i64 r29, .int .u64 (Nat.cast key29 : Int), sv29] isAgg25 sizeOf25 rfl rfl)) rfl <| O.gq (t := 65) rfl rfl (decide_eq_true hsm25.2.2) rfl (Qt.ld rfl (Cel.var 6 rfl) (o := 0) (off := 0) rfl (Cut.agg [.int .i64 b, .int .i64 c, .int .i64 r, .int .u64 (Nat.cast n : Int), sv] isAgg25 sizeOf25 rfl rfl)) rfl <| O.gl (t := 65) rfl rfl (decide_eq_true hsm25.2.2) rfl (Lo.call [.agg #[.int .i64 b29, .int .i64 c29, .int .i64 r29, .int .u64 (Nat.cast key29 : Int), sv29], .agg #[.int .i64 b, .int .i64 c, .int .i64 r, .int .u64 (Nat.cast n : Int), sv]] (by exact call10) rfl (r30_Same b29 c29 r29 key29 sv29 l29 b c r n sv l (by have h_ := (hb29).1; omega) (fun s_ hs_ => by have h_ := (hb29).2 s_ hs_; omega) (by have h_ := (hfw).1; omega) (fun s_ hs_ => by have h_ := (hfw).2 s_ hs_; omega)) [] [0, 1, 2, 3, 4, 5, 6] (by decide) rfl [var g31 [.int .i64 b29, .int .i64 c29, .int .i64 r29, .int .u64 (Nat.cast key29 : Int), sv29] 25, row sv29 47 14 (l29.map Sg.cells), bun (l29.map (Sg.row 50)), var g27 [.int .i64 b25, .int .i64 c25, .int .i64 r25, .int .u64 (Nat.cast key25 : Int), sv25] 25, row sv25 47 14 (l25.map Sg.cells), bun (l25.map (Sg.row 50)), var g1 [.int .i64 b, .int .i64 c, .int .i64 r, .int .u64 (Nat.cast n : Int), sv] 25] rfl (RoOk.of 1 rfl row_rd [] (by decide) rfl (RoOk.of 2 rfl sg_ros [] (by decide) rfl (RoOk.ro 3 rfl [] rfl (RoOk.ro 4 rfl [] rfl RoOk.nil))))) rfl ?_
    rintro _ _ ⟨_, ⟨rfl, rfl⟩, rfl⟩
    refine O.p (Pu.pickT rfl (decide_eq_true hsm25.2.2) rfl) rfl <| O.m rfl rfl <| O.gq (t := 70) rfl rfl hsm29.1 rfl (Pu.qt (Pu.move rfl)) rfl <| O.gq (t := 70) rfl rfl hsm29.1 rfl (Pu.qt (Pu.eql rfl rfl)) rfl <| O.p (Pu.pickT rfl hsm29.1 rfl) rfl <| O.m rfl rfl <| O.gq (t := 74) rfl rfl (decide_eq_true hsm29.2.1) rfl (Pu.qt (Pu.move rfl)) rfl <| O.gq (t := 74) rfl rfl (decide_eq_true hsm29.2.1) rfl (Pu.qt (Pu.eql rfl rfl)) rfl <| O.p (Pu.pickT rfl (decide_eq_true hsm29.2.1) rfl) rfl <| O.m rfl rfl <| O.gl (t := 78) rfl rfl (decide_eq_true hsm29.2.2) rfl (Lo.call [] (by exact call8) rfl law30_awake [] [0, 1, 2, 3, 4, 5, 6] (by decide) rfl [var g31 [.int .i64 b29, .int .i64 c29, .int .i64 r29, .int .u64 (Nat.cast key29 : Int), sv29] 25, row sv29 47 14 (l29.map Sg.cells), bun (l29.map (Sg.row 50)), var g27 [.int .i64 b25, .int .i64 c25, .int .i64 r25, .int .u64 (Nat.cast key25 : Int), sv25] 25, row sv25 47 14 (l25.map Sg.cells), bun (l25.map (Sg.row 50)), var g1 [.int .i64 b, .int .i64 c, .int .i64 r, .int .u64 (Nat.cast n : Int), sv] 25] rfl (RoOk.ro 0 rfl [] rfl (RoOk.ro 1 rfl [] rfl (RoOk.ro 2 rfl [] rfl RoOk.nil)))) rfl ?_
    rintro _ _ ⟨_, ⟨rfl, rfl⟩, rfl⟩
    refine O.p (Pu.pickT rfl (decide_eq_true hsm29.2.2) rfl) rfl <| O.a rfl rfl <| O.nil ?_
    exact J.ret (Fin.ret (rs := [.tmp 4]) rfl [_] ⟨rfl, trivial⟩ [] (by decide) [] rfl ⟨rfl, rfl⟩)

end Go.Proofs.YtnhfgnnpbipcnaaGreatDoor
