/-
  Walks, printed by a program of mine (lk.py): each function meets its contract.
-/
import Derived.KernelRfl
import Derived.Test.YtnhfgnnpbipcnaaGreatDoorNumsT
import Derived.Test.YtnhfgnnpbipcnaaGreatDoorWordsA
namespace Go.Proofs.YtnhfgnnpbipcnaaGreatDoor
open Go Go.LK Go.Proofs.Tryz
set_option linter.unusedSimpArgs false

set_option maxRecDepth 100000 in
theorem w_nl (c : Int) : Tri prog 86 #[.int .i32 c] [] [] (fun v L' => v = .bool (Wd.spL c) ∧ L' = []) := by
 refine Tri.enter (args := [.int .i32 c]) (body := _) 5 func86 rfl ntmps86 rfl ?_
 intro w0
 refine J.seq <| J.region <| O.a rfl rfl <| O.nil <| J.seq <| J.region <| O.m rfl rfl <| O.p (Pu.eql rfl rfl) rfl <| O.a rfl rfl <| O.nil ?_
 exact J.ret (Fin.ret (rs := [.tmp 2]) rfl [_] ⟨rfl, trivial⟩ [] (by decide) [] rfl ⟨rfl, rfl⟩)

set_option maxRecDepth 100000 in
theorem w_bl (c : Int) : Tri prog 87 #[.int .i32 c] [] [] (fun v L' => v = .bool (Wd.spW c) ∧ L' = []) := by
 refine Tri.enter (args := [.int .i32 c]) (body := _) 9 func87 rfl ntmps87 rfl ?_
 intro w0
 refine J.seq <| J.region <| O.a rfl rfl <| O.nil <| J.seq <| J.region <| O.m rfl rfl <| O.p (Pu.eql rfl rfl) rfl <| O.m rfl rfl ?_
 refine by_bool (decide (c = 32)) (fun h1 => ?_) (fun h1 => ?_)
 ·
  have p2 := of_decide_eq_true h1
  refine O.gskip (t := 5) rfl rfl (no_bool (by rw [h1]; decide)) rfl rfl <| O.gskip (t := 5) rfl rfl (no_bool (by rw [h1]; decide)) rfl rfl <| O.p (Pu.pickT rfl h1 rfl) rfl <| O.a rfl rfl <| O.nil ?_
  exact J.ret (Fin.ret (rs := [.tmp 2]) rfl [_] ⟨rfl, trivial⟩ [] (by decide) [] rfl ⟨(by simp [vOf, Wd.spW, *]), rfl⟩)
 ·
  have p3 := of_decide_eq_false h1
  refine O.gq (t := 5) rfl rfl h1 rfl (Pu.qt (Pu.move rfl)) rfl <| O.gq (t := 5) rfl rfl h1 rfl (Pu.qt (Pu.eql rfl rfl)) rfl <| O.p (Pu.pickF rfl h1 rfl) rfl <| O.a rfl rfl <| O.nil ?_
  exact J.ret (Fin.ret (rs := [.tmp 2]) rfl [_] ⟨rfl, trivial⟩ [] (by decide) [] rfl ⟨(by simp [vOf, Wd.spW, *]), rfl⟩)

set_option maxRecDepth 100000 in
theorem w_partedL (s : List UInt8) (hs : s.length ≤ 1000000) : Tri prog 85 #[str s, .func (.func 86) #[] #[], .int .i32 (-1)] [] [] (fun v L' => L' = [row v 9 1 ((Wd.parts Wd.nl (-1) s).map encS)]) := by
 refine Tri.enter (args := [str s, .func (.func 86) #[] #[], .int .i32 (-1)]) (body := _) 43 func85 rfl ntmps85 rfl ?_
 intro w0
 refine J.seq <| J.region <| O.a rfl rfl <| O.nil <| J.scope <| J.seq <| J.region <| O.a rfl rfl <| O.nil <| J.seq <| J.region <| O.a rfl rfl ?_
 refine O.nil <| J.seq <| J.label <| J.seq <| J.seq <| J.region <| O.m rfl rfl <| O.l (Lo.range (by exact underlying9) rfl) rfl ?_
 rintro _ _ ⟨g1, rfl, rfl⟩
 refine O.nil <| J.block <| J.nilRow 9 1 <| J.loop (X := Nat × Nat × Value × List Wd.Bs) (fun ξ => Wd.PI (fun c => Wd.spL c.toNat) (-1) s ξ.2.1 ξ.1 ξ.2.2.2) (fun ξ => [(0, str s), (1, .func (.func 86) #[] #[]), (2, .int .i32 (-1)), (6, Value.slice none 0 0), (7, ξ.2.2.1), (8, .int .i64 (ξ.2.1 : Int)), (12, .pointer (some ⟨g1, 0, none⟩))]) (fun ξ => [itS g1 s ξ.1, row ξ.2.2.1 9 1 (ξ.2.2.2.map encS)]) (fun ξ => s.length - ξ.1) ⟨0, 0, Value.slice none 0 0, []⟩ (show Wd.PI (fun c => Wd.spL c.toNat) (-1) s 0 0 ([]) from Wd.pi_zero) ⟨rfl, rfl, rfl, rfl, rfl, (congrArg (fun z => some (Value.int .i64 z)) (by first | rfl | omega : (0 : Int) = (0 : Int))), rfl, trivial⟩ [1, 0] (by decide) rfl ?_
 rintro ⟨i, fr, V, out⟩ hq2
 have hp : Wd.PI (fun c => Wd.spL c.toNat) (-1) s fr i out := hq2
 show J _ _ [(0, str s), (1, .func (.func 86) #[] #[]), (2, .int .i32 (-1)), (6, Value.slice none 0 0), (7, V), (8, .int .i64 (fr : Int)), (12, .pointer (some ⟨g1, 0, none⟩))] [itS g1 s i, row V 9 1 (out.map encS)]
 have hl_ := Wd.pi_len hp
 refine J.seq <| J.region ?_
 refine by_bool (decide (i < s.length)) (fun h3 => ?_) (fun h3 => ?_)
 ·
  have p4 := of_decide_eq_true h3
  obtain ⟨b5, hb5⟩ : ∃ x_, s[i]? = some x_ := ⟨_, List.getElem?_eq_getElem (of_decide_eq_true h3)⟩
  have hrb5 := Wd.rune_num hb5
  refine O.l (Lo.next 0 rfl rfl (of_decide_eq_true h3)) rfl ?_
  rintro _ _ ⟨rfl, rfl⟩
  refine O.p (Pu.extract rfl rfl) rfl <| O.nil <| J.seq <| J.condT rfl rfl <| J.skip <| J.block <| J.seq <| J.region <| O.p (Pu.extract rfl rfl) rfl <| O.p (Pu.extract rfl rfl) rfl <| O.a rfl rfl <| O.a rfl rfl ?_
  refine O.nil <| J.block <| J.seq <| J.region <| O.m rfl rfl <| O.m rfl rfl <| O.p (Pu.eql rfl rfl) rfl <| O.a rfl rfl <| O.nil ?_
  refine J.cond rfl (fun h6 => ?_) (fun h6 => ?_)
  ·
   have p7 := of_decide_eq_true h6
   refine J.seq <| J.region <| O.m rfl rfl <| O.m rfl rfl <| O.p (Pu.sHead runUnderlying9 rfl rfl (by first | omega | (simp only [List.length_take]; omega) | (simp only [List.length_append, List.length_cons, List.length_nil]; omega)) (by first | omega | (simp only [List.length_take]; omega) | (simp only [List.length_append, List.length_cons, List.length_nil]; omega))) rfl <| O.a rfl rfl <| O.nil <| J.exit _ rfl <| J.seq <| J.region <| O.m rfl rfl <| O.m rfl rfl ?_
   refine O.m rfl rfl <| O.p (Pu.sTail runUnderlying9 rfl rfl (by first | omega | (simp only [List.length_take]; omega) | (simp only [List.length_append, List.length_cons, List.length_nil]; omega)) (by first | omega | (simp only [List.length_take]; omega) | (simp only [List.length_append, List.length_cons, List.length_nil]; omega))) rfl <| O.l (Lo.buildM (s := 1) encS [(s.take ((i : Int)).toNat).drop ((fr : Int)).toNat] [(0, str ((s.take ((i : Int)).toNat).drop ((fr : Int)).toNat))] (by exact runUnderlying72) (by exact sizeOf9) (by exact zeroValue9) rfl rfl rfl (by kernel_rfl) rfl rfl) rfl ?_
   rintro V8 _ rfl
   refine O.l (Lo.appendM (s := 1) 2 (by exact underlying72) (by exact (info9).1) (by exact (info9).2.1) (by exact (info9).2.2.1) (by exact (info9).2.2.2) rfl rfl rfl rfl rfl (Src.row 0 rfl) encS.one (by first | omega | (simp only [List.length_take]; omega) | (simp only [List.length_append, List.length_cons, List.length_nil]; omega)) (by first | omega | (simp only [List.length_take]; omega) | (simp only [List.length_append, List.length_cons, List.length_nil]; omega))) rfl ?_
   rintro V9 _ rfl
   refine O.a rfl rfl <| O.nil ?_
   exact J.ret (Fin.ret (rs := [.tmp 6]) rfl [_] ⟨rfl, trivial⟩ [2] (by decide) [row V9 9 1 ((out ++ ([(s.take ((i : Int)).toNat).drop ((fr : Int)).toNat])).map encS)] rfl (congrArg (fun (o : List Wd.Bs) => ([row V9 9 1 (o.map encS)] : List Sp)) (by first | exact Wd.pi_stopR (i := i) (fr := fr) (sp := Wd.spL) (e := -1) (by decide) hp ‹_› (by omega) | exact Wd.pi_done hp (by omega))))
  ·
   have p10 := of_decide_eq_false h6
   refine J.seq <| J.region <| O.m rfl rfl <| O.m rfl rfl <| O.l (Lo.callV (vs := [.int .i32 ((rune s i).1 : Int)]) (caps := []) (by exact call86) rfl rfl (w_nl ((rune s i).1 : Int)) [] [0, 1] (by decide) rfl [itS g1 s (i + (rune s i).2), row V 9 1 (out.map encS)] rfl RoOk.nil) rfl ?_
   rintro _ _ ⟨_, ⟨rfl, rfl⟩, rfl⟩
   refine O.a rfl rfl <| O.nil ?_
   refine J.cond rfl (fun h12 => ?_) (fun h12 => ?_)
   ·
    refine J.seq <| J.region <| O.m rfl rfl <| O.m rfl rfl <| O.m rfl rfl <| O.m rfl rfl <| O.p (Pu.sCut runUnderlying9 rfl rfl rfl (by first | omega | (simp only [List.length_take]; omega) | (simp only [List.length_append, List.length_cons, List.length_nil]; omega)) (by first | omega | (simp only [List.length_take]; omega) | (simp only [List.length_append, List.length_cons, List.length_nil]; omega)) (by first | omega | (simp only [List.length_take]; omega) | (simp only [List.length_append, List.length_cons, List.length_nil]; omega))) rfl <| O.l (Lo.buildM (s := 1) encS [(s.drop ((fr : Int)).toNat).take (((i : Int)).toNat - ((fr : Int)).toNat)] [(0, str ((s.drop ((fr : Int)).toNat).take (((i : Int)).toNat - ((fr : Int)).toNat)))] (by exact runUnderlying72) (by exact sizeOf9) (by exact zeroValue9) rfl rfl rfl (by kernel_rfl) rfl rfl) rfl ?_
    rintro V13 _ rfl
    refine O.l (Lo.appendM (s := 1) 2 (by exact underlying72) (by exact (info9).1) (by exact (info9).2.1) (by exact (info9).2.2.1) (by exact (info9).2.2.2) rfl rfl rfl rfl rfl (Src.row 0 rfl) encS.one (by first | omega | (simp only [List.length_take]; omega) | (simp only [List.length_append, List.length_cons, List.length_nil]; omega)) (by first | omega | (simp only [List.length_take]; omega) | (simp only [List.length_append, List.length_cons, List.length_nil]; omega))) rfl ?_
    rintro V14 _ rfl
    refine O.a rfl rfl <| O.nil <| J.region <| O.m rfl rfl <| O.p (Pu.add' rfl rfl (by first | omega | (simp only [List.length_append, List.length_cons, List.length_nil, List.length_set]; omega))) rfl <| O.a rfl rfl <| O.nil <| J.blk <| J.blk ?_
    exact J.lp ⟨i + (rune s i).2, i + 1, V14, out ++ ([(s.drop ((fr : Int)).toNat).take (((i : Int)).toNat - ((fr : Int)).toNat)])⟩ (show Wd.PI (fun c => Wd.spL c.toNat) (-1) s (i + 1) (i + (rune s i).2) (out ++ ([(s.drop ((fr : Int)).toNat).take (((i : Int)).toNat - ((fr : Int)).toNat)])) from (by first | exact Wd.pi_cutR (sp := Wd.spL) (e := -1) (fun z h => Wd.spL_big h) hp ‹_› ‹_› (by omega) | exact Wd.pi_rune (sp := Wd.spL) (e := -1) (fun z h => Wd.spL_big h) (by decide) hp ‹_› ‹_› (by omega))) (show s.length - (i + (rune s i).2) < s.length - i from (by first | omega | (simp only [List.length_take]; omega) | (simp only [List.length_append, List.length_cons, List.length_nil]; omega))) ⟨rfl, rfl, rfl, rfl, rfl, (congrArg (fun z => some (Value.int .i64 z)) (by first | rfl | omega : ((i : Int) + 1 : Int) = ((i + 1) : Int))), rfl, trivial⟩ [1, 2] (by decide) rfl
   ·
    refine J.skip <| J.blk <| J.blk ?_
    exact J.lp ⟨i + (rune s i).2, fr, V, out⟩ (show Wd.PI (fun c => Wd.spL c.toNat) (-1) s fr (i + (rune s i).2) out from (by first | exact Wd.pi_cutR (sp := Wd.spL) (e := -1) (fun z h => Wd.spL_big h) hp ‹_› ‹_› (by omega) | exact Wd.pi_rune (sp := Wd.spL) (e := -1) (fun z h => Wd.spL_big h) (by decide) hp ‹_› ‹_› (by omega))) (show s.length - (i + (rune s i).2) < s.length - i from (by first | omega | (simp only [List.length_take]; omega) | (simp only [List.length_append, List.length_cons, List.length_nil]; omega))) ⟨rfl, rfl, rfl, rfl, rfl, rfl, rfl, trivial⟩ [0, 1] (by decide) rfl
 ·
  have p15 := of_decide_eq_false h3
  refine O.l (Lo.nextEnd 0 rfl rfl (of_decide_eq_false h3)) rfl ?_
  rintro _ _ ⟨rfl, rfl⟩
  refine O.p (Pu.extract rfl rfl) rfl <| O.nil <| J.seq <| J.condF rfl rfl <| J.exit _ rfl <| J.seq <| J.region <| O.m rfl rfl <| O.m rfl rfl <| O.m rfl rfl <| O.p (Pu.sTail runUnderlying9 rfl rfl (by first | omega | (simp only [List.length_take]; omega) | (simp only [List.length_append, List.length_cons, List.length_nil]; omega)) (by first | omega | (simp only [List.length_take]; omega) | (simp only [List.length_append, List.length_cons, List.length_nil]; omega))) rfl <| O.l (Lo.buildM (s := 1) encS [s.drop ((fr : Int)).toNat] [(0, str (s.drop ((fr : Int)).toNat))] (by exact runUnderlying72) (by exact sizeOf9) (by exact zeroValue9) rfl rfl rfl (by kernel_rfl) rfl rfl) rfl ?_
  rintro V16 _ rfl
  refine O.l (Lo.appendM (s := 1) 2 (by exact underlying72) (by exact (info9).1) (by exact (info9).2.1) (by exact (info9).2.2.1) (by exact (info9).2.2.2) rfl rfl rfl rfl rfl (Src.row 0 rfl) encS.one (by first | omega | (simp only [List.length_take]; omega) | (simp only [List.length_append, List.length_cons, List.length_nil]; omega)) (by first | omega | (simp only [List.length_take]; omega) | (simp only [List.length_append, List.length_cons, List.length_nil]; omega))) rfl ?_
  rintro V17 _ rfl
  refine O.a rfl rfl <| O.nil ?_
  exact J.ret (Fin.ret (rs := [.tmp 6]) rfl [_] ⟨rfl, trivial⟩ [2] (by decide) [row V17 9 1 ((out ++ ([s.drop ((fr : Int)).toNat])).map encS)] rfl (congrArg (fun (o : List Wd.Bs) => ([row V17 9 1 (o.map encS)] : List Sp)) (by first | exact Wd.pi_stopR (i := i) (fr := fr) (sp := Wd.spL) (e := -1) (by decide) hp ‹_› (by omega) | exact Wd.pi_done hp (by omega))))

set_option maxRecDepth 100000 in
theorem w_partedW (s : List UInt8) (hs : s.length ≤ 1000000) : Tri prog 85 #[str s, .func (.func 87) #[] #[], .int .i32 35] [] [] (fun v L' => L' = [row v 9 1 ((Wd.parts Wd.bl 35 s).map encS)]) := by
 refine Tri.enter (args := [str s, .func (.func 87) #[] #[], .int .i32 35]) (body := _) 43 func85 rfl ntmps85 rfl ?_
 intro w0
 refine J.seq <| J.region <| O.a rfl rfl <| O.nil <| J.scope <| J.seq <| J.region <| O.a rfl rfl <| O.nil <| J.seq <| J.region <| O.a rfl rfl ?_
 refine O.nil <| J.seq <| J.label <| J.seq <| J.seq <| J.region <| O.m rfl rfl <| O.l (Lo.range (by exact underlying9) rfl) rfl ?_
 rintro _ _ ⟨g1, rfl, rfl⟩
 refine O.nil <| J.block <| J.nilRow 9 1 <| J.loop (X := Nat × Nat × Value × List Wd.Bs) (fun ξ => Wd.PI (fun c => Wd.spW c.toNat) 35 s ξ.2.1 ξ.1 ξ.2.2.2) (fun ξ => [(0, str s), (1, .func (.func 87) #[] #[]), (2, .int .i32 35), (6, Value.slice none 0 0), (7, ξ.2.2.1), (8, .int .i64 (ξ.2.1 : Int)), (12, .pointer (some ⟨g1, 0, none⟩))]) (fun ξ => [itS g1 s ξ.1, row ξ.2.2.1 9 1 (ξ.2.2.2.map encS)]) (fun ξ => s.length - ξ.1) ⟨0, 0, Value.slice none 0 0, []⟩ (show Wd.PI (fun c => Wd.spW c.toNat) 35 s 0 0 ([]) from Wd.pi_zero) ⟨rfl, rfl, rfl, rfl, rfl, (congrArg (fun z => some (Value.int .i64 z)) (by first | rfl | omega : (0 : Int) = (0 : Int))), rfl, trivial⟩ [1, 0] (by decide) rfl ?_
 rintro ⟨i, fr, V, out⟩ hq2
 have hp : Wd.PI (fun c => Wd.spW c.toNat) 35 s fr i out := hq2
 show J _ _ [(0, str s), (1, .func (.func 87) #[] #[]), (2, .int .i32 35), (6, Value.slice none 0 0), (7, V), (8, .int .i64 (fr : Int)), (12, .pointer (some ⟨g1, 0, none⟩))] [itS g1 s i, row V 9 1 (out.map encS)]
 have hl_ := Wd.pi_len hp
 refine J.seq <| J.region ?_
 refine by_bool (decide (i < s.length)) (fun h3 => ?_) (fun h3 => ?_)
 ·
  have p4 := of_decide_eq_true h3
  obtain ⟨b5, hb5⟩ : ∃ x_, s[i]? = some x_ := ⟨_, List.getElem?_eq_getElem (of_decide_eq_true h3)⟩
  have hrb5 := Wd.rune_num hb5
  refine O.l (Lo.next 0 rfl rfl (of_decide_eq_true h3)) rfl ?_
  rintro _ _ ⟨rfl, rfl⟩
  refine O.p (Pu.extract rfl rfl) rfl <| O.nil <| J.seq <| J.condT rfl rfl <| J.skip <| J.block <| J.seq <| J.region <| O.p (Pu.extract rfl rfl) rfl <| O.p (Pu.extract rfl rfl) rfl <| O.a rfl rfl <| O.a rfl rfl ?_
  refine O.nil <| J.block <| J.seq <| J.region <| O.m rfl rfl <| O.m rfl rfl <| O.p (Pu.eql rfl rfl) rfl <| O.a rfl rfl <| O.nil ?_
  refine J.cond rfl (fun h6 => ?_) (fun h6 => ?_)
  ·
   have p7 := of_decide_eq_true h6
   refine J.seq <| J.region <| O.m rfl rfl <| O.m rfl rfl <| O.p (Pu.sHead runUnderlying9 rfl rfl (by first | omega | (simp only [List.length_take]; omega) | (simp only [List.length_append, List.length_cons, List.length_nil]; omega)) (by first | omega | (simp only [List.length_take]; omega) | (simp only [List.length_append, List.length_cons, List.length_nil]; omega))) rfl <| O.a rfl rfl <| O.nil <| J.exit _ rfl <| J.seq <| J.region <| O.m rfl rfl <| O.m rfl rfl ?_
   refine O.m rfl rfl <| O.p (Pu.sTail runUnderlying9 rfl rfl (by first | omega | (simp only [List.length_take]; omega) | (simp only [List.length_append, List.length_cons, List.length_nil]; omega)) (by first | omega | (simp only [List.length_take]; omega) | (simp only [List.length_append, List.length_cons, List.length_nil]; omega))) rfl <| O.l (Lo.buildM (s := 1) encS [(s.take ((i : Int)).toNat).drop ((fr : Int)).toNat] [(0, str ((s.take ((i : Int)).toNat).drop ((fr : Int)).toNat))] (by exact runUnderlying72) (by exact sizeOf9) (by exact zeroValue9) rfl rfl rfl (by kernel_rfl) rfl rfl) rfl ?_
   rintro V8 _ rfl
   refine O.l (Lo.appendM (s := 1) 2 (by exact underlying72) (by exact (info9).1) (by exact (info9).2.1) (by exact (info9).2.2.1) (by exact (info9).2.2.2) rfl rfl rfl rfl rfl (Src.row 0 rfl) encS.one (by first | omega | (simp only [List.length_take]; omega) | (simp only [List.length_append, List.length_cons, List.length_nil]; omega)) (by first | omega | (simp only [List.length_take]; omega) | (simp only [List.length_append, List.length_cons, List.length_nil]; omega))) rfl ?_
   rintro V9 _ rfl
   refine O.a rfl rfl <| O.nil ?_
   exact J.ret (Fin.ret (rs := [.tmp 6]) rfl [_] ⟨rfl, trivial⟩ [2] (by decide) [row V9 9 1 ((out ++ ([(s.take ((i : Int)).toNat).drop ((fr : Int)).toNat])).map encS)] rfl (congrArg (fun (o : List Wd.Bs) => ([row V9 9 1 (o.map encS)] : List Sp)) (by first | exact Wd.pi_stopR (i := i) (fr := fr) (sp := Wd.spW) (e := 35) (by decide) hp ‹_› (by omega) | exact Wd.pi_done hp (by omega))))
  ·
   have p10 := of_decide_eq_false h6
   refine J.seq <| J.region <| O.m rfl rfl <| O.m rfl rfl <| O.l (Lo.callV (vs := [.int .i32 ((rune s i).1 : Int)]) (caps := []) (by exact call87) rfl rfl (w_bl ((rune s i).1 : Int)) [] [0, 1] (by decide) rfl [itS g1 s (i + (rune s i).2), row V 9 1 (out.map encS)] rfl RoOk.nil) rfl ?_
   rintro _ _ ⟨_, ⟨rfl, rfl⟩, rfl⟩
   refine O.a rfl rfl <| O.nil ?_
   refine J.cond rfl (fun h12 => ?_) (fun h12 => ?_)
   ·
    refine J.seq <| J.region <| O.m rfl rfl <| O.m rfl rfl <| O.m rfl rfl <| O.m rfl rfl <| O.p (Pu.sCut runUnderlying9 rfl rfl rfl (by first | omega | (simp only [List.length_take]; omega) | (simp only [List.length_append, List.length_cons, List.length_nil]; omega)) (by first | omega | (simp only [List.length_take]; omega) | (simp only [List.length_append, List.length_cons, List.length_nil]; omega)) (by first | omega | (simp only [List.length_take]; omega) | (simp only [List.length_append, List.length_cons, List.length_nil]; omega))) rfl <| O.l (Lo.buildM (s := 1) encS [(s.drop ((fr : Int)).toNat).take (((i : Int)).toNat - ((fr : Int)).toNat)] [(0, str ((s.drop ((fr : Int)).toNat).take (((i : Int)).toNat - ((fr : Int)).toNat)))] (by exact runUnderlying72) (by exact sizeOf9) (by exact zeroValue9) rfl rfl rfl (by kernel_rfl) rfl rfl) rfl ?_
    rintro V13 _ rfl
    refine O.l (Lo.appendM (s := 1) 2 (by exact underlying72) (by exact (info9).1) (by exact (info9).2.1) (by exact (info9).2.2.1) (by exact (info9).2.2.2) rfl rfl rfl rfl rfl (Src.row 0 rfl) encS.one (by first | omega | (simp only [List.length_take]; omega) | (simp only [List.length_append, List.length_cons, List.length_nil]; omega)) (by first | omega | (simp only [List.length_take]; omega) | (simp only [List.length_append, List.length_cons, List.length_nil]; omega))) rfl ?_
    rintro V14 _ rfl
    refine O.a rfl rfl <| O.nil <| J.region <| O.m rfl rfl <| O.p (Pu.add' rfl rfl (by first | omega | (simp only [List.length_append, List.length_cons, List.length_nil, List.length_set]; omega))) rfl <| O.a rfl rfl <| O.nil <| J.blk <| J.blk ?_
    exact J.lp ⟨i + (rune s i).2, i + 1, V14, out ++ ([(s.drop ((fr : Int)).toNat).take (((i : Int)).toNat - ((fr : Int)).toNat)])⟩ (show Wd.PI (fun c => Wd.spW c.toNat) 35 s (i + 1) (i + (rune s i).2) (out ++ ([(s.drop ((fr : Int)).toNat).take (((i : Int)).toNat - ((fr : Int)).toNat)])) from (by first | exact Wd.pi_cutR (sp := Wd.spW) (e := 35) (fun z h => Wd.spW_big h) hp ‹_› ‹_› (by omega) | exact Wd.pi_rune (sp := Wd.spW) (e := 35) (fun z h => Wd.spW_big h) (by decide) hp ‹_› ‹_› (by omega))) (show s.length - (i + (rune s i).2) < s.length - i from (by first | omega | (simp only [List.length_take]; omega) | (simp only [List.length_append, List.length_cons, List.length_nil]; omega))) ⟨rfl, rfl, rfl, rfl, rfl, (congrArg (fun z => some (Value.int .i64 z)) (by first | rfl | omega : ((i : Int) + 1 : Int) = ((i + 1) : Int))), rfl, trivial⟩ [1, 2] (by decide) rfl
   ·
    refine J.skip <| J.blk <| J.blk ?_
    exact J.lp ⟨i + (rune s i).2, fr, V, out⟩ (show Wd.PI (fun c => Wd.spW c.toNat) 35 s fr (i + (rune s i).2) out from (by first | exact Wd.pi_cutR (sp := Wd.spW) (e := 35) (fun z h => Wd.spW_big h) hp ‹_› ‹_› (by omega) | exact Wd.pi_rune (sp := Wd.spW) (e := 35) (fun z h => Wd.spW_big h) (by decide) hp ‹_› ‹_› (by omega))) (show s.length - (i + (rune s i).2) < s.length - i from (by first | omega | (simp only [List.length_take]; omega) | (simp only [List.length_append, List.length_cons, List.length_nil]; omega))) ⟨rfl, rfl, rfl, rfl, rfl, rfl, rfl, trivial⟩ [0, 1] (by decide) rfl
 ·
  have p15 := of_decide_eq_false h3
  refine O.l (Lo.nextEnd 0 rfl rfl (of_decide_eq_false h3)) rfl ?_
  rintro _ _ ⟨rfl, rfl⟩
  refine O.p (Pu.extract rfl rfl) rfl <| O.nil <| J.seq <| J.condF rfl rfl <| J.exit _ rfl <| J.seq <| J.region <| O.m rfl rfl <| O.m rfl rfl <| O.m rfl rfl <| O.p (Pu.sTail runUnderlying9 rfl rfl (by first | omega | (simp only [List.length_take]; omega) | (simp only [List.length_append, List.length_cons, List.length_nil]; omega)) (by first | omega | (simp only [List.length_take]; omega) | (simp only [List.length_append, List.length_cons, List.length_nil]; omega))) rfl <| O.l (Lo.buildM (s := 1) encS [s.drop ((fr : Int)).toNat] [(0, str (s.drop ((fr : Int)).toNat))] (by exact runUnderlying72) (by exact sizeOf9) (by exact zeroValue9) rfl rfl rfl (by kernel_rfl) rfl rfl) rfl ?_
  rintro V16 _ rfl
  refine O.l (Lo.appendM (s := 1) 2 (by exact underlying72) (by exact (info9).1) (by exact (info9).2.1) (by exact (info9).2.2.1) (by exact (info9).2.2.2) rfl rfl rfl rfl rfl (Src.row 0 rfl) encS.one (by first | omega | (simp only [List.length_take]; omega) | (simp only [List.length_append, List.length_cons, List.length_nil]; omega)) (by first | omega | (simp only [List.length_take]; omega) | (simp only [List.length_append, List.length_cons, List.length_nil]; omega))) rfl ?_
  rintro V17 _ rfl
  refine O.a rfl rfl <| O.nil ?_
  exact J.ret (Fin.ret (rs := [.tmp 6]) rfl [_] ⟨rfl, trivial⟩ [2] (by decide) [row V17 9 1 ((out ++ ([s.drop ((fr : Int)).toNat])).map encS)] rfl (congrArg (fun (o : List Wd.Bs) => ([row V17 9 1 (o.map encS)] : List Sp)) (by first | exact Wd.pi_stopR (i := i) (fr := fr) (sp := Wd.spW) (e := 35) (by decide) hp ‹_› (by omega) | exact Wd.pi_done hp (by omega))))

set_option maxRecDepth 100000 in
theorem w_Lines (s : List UInt8) (hs : s.length ≤ 1000000) : Tri prog 48 #[str s] [] [] (fun v L' => L' = [row v 9 1 ((Wd.linesL s).map encS)]) := by
 have hne_ := List.length_pos_iff.2 (Wd.parts_ne (p := Wd.nl) (e := -1) (s := s)); have hpl_ := Wd.parts_len (p := Wd.nl) (e := -1) s
 refine Tri.enter (args := [str s]) (body := _) 19 func48 rfl ntmps48 rfl ?_
 intro w0
 refine J.seq <| J.region <| O.a rfl rfl <| O.nil <| J.seq <| J.region <| O.m rfl rfl <| O.l (Lo.call [str s, .func (.func 86) #[] #[], .int .i32 (-1)] (by exact call85) rfl (w_partedL s (by first | omega | (simp only [List.length_append, List.length_cons, List.length_nil, List.length_set]; omega))) [] [] (by decide) rfl [] rfl RoOk.nil) rfl ?_
 rintro v1 _ ⟨_, rfl, rfl⟩
 refine O.a rfl rfl <| O.nil <| J.seq <| J.seq <| J.region <| O.m rfl rfl <| O.m rfl rfl <| O.q (Qt.lenM runUnderlying72 rfl (Src.row 0 rfl)) rfl <| O.p (Pu.sub' rfl rfl (by first | omega | (simp only [List.length_append, List.length_cons, List.length_nil, List.length_set]; omega))) rfl ?_
 obtain ⟨e2, he2⟩ : ∃ x_, (Wd.parts Wd.nl (-1) s)[((Wd.parts Wd.nl (-1) s).length - 1)]? = some x_ := ⟨_, List.getElem?_eq_getElem (by first | omega | (simp only [List.length_append, List.length_cons, List.length_nil, List.length_set]; omega))⟩
 refine O.q (Qt.idxM runUnderlying72 sizeOf9 rfl (Src.row 0 rfl) rfl (by first | omega | (simp only [List.length_append, List.length_cons, List.length_nil, List.length_set]; omega)) (by first | omega | (simp only [List.length_append, List.length_cons, List.length_nil, List.length_set]; omega))) rfl <| O.q (Qt.ld rfl (Cel.eltM (Src.row 0 rfl) he2) (o := (voff v1 + ((Wd.parts Wd.nl (-1) s).length - 1) * 1)) (off := 0) (by omega) (Cut.one isAgg9 rfl)) rfl <| O.p (Pu.sEql rfl rfl) rfl <| O.nil ?_
 refine J.cond rfl (fun h3 => ?_) (fun h3 => ?_)
 ·
  refine J.seq <| J.region <| O.m rfl rfl <| O.m rfl rfl <| O.q (Qt.lenM runUnderlying72 rfl (Src.row 0 rfl)) rfl <| O.p (Pu.sub' rfl rfl (by first | omega | (simp only [List.length_append, List.length_cons, List.length_nil, List.length_set]; omega))) rfl <| O.l (Lo.headRow 0 (by exact runUnderlying72) (by exact sizeOf9) rfl rfl rfl (by first | omega | (simp only [List.length_append, List.length_cons, List.length_nil, List.length_set]; omega)) (by first | omega | (simp only [List.length_append, List.length_cons, List.length_nil, List.length_set]; omega))) rfl ?_
  rintro _ _ ⟨rfl, rfl⟩
  refine O.a rfl rfl <| O.nil ?_
  exact J.ret (Fin.ret (rs := [.tmp 2]) rfl [_] ⟨rfl, trivial⟩ [0] (by decide) [row (vcut v1 1 0 (((Wd.parts Wd.nl (-1) s).length : Int) - 1).toNat) 9 1 (((Wd.parts Wd.nl (-1) s).take (((Wd.parts Wd.nl (-1) s).length : Int) - 1).toNat).map encS)] rfl (congrArg (fun (o : List Wd.Bs) => ([row (vcut v1 1 0 (((Wd.parts Wd.nl (-1) s).length : Int) - 1).toNat) 9 1 (o.map encS)] : List Sp)) (by first | (rw [Wd.lines_yes rfl ‹_› ‹_›]; exact congrArg (fun m => List.take m _) (by omega)) | exact (Wd.lines_no rfl ‹_› ‹_›).symm)))
 ·
  refine J.skip <| J.seq <| J.region <| O.m rfl rfl <| O.a rfl rfl <| O.nil ?_
  exact J.ret (Fin.ret (rs := [.tmp 2]) rfl [_] ⟨rfl, trivial⟩ [0] (by decide) [row v1 9 1 ((Wd.parts Wd.nl (-1) s).map encS)] rfl (congrArg (fun (o : List Wd.Bs) => ([row v1 9 1 (o.map encS)] : List Sp)) (by first | (rw [Wd.lines_yes rfl ‹_› ‹_›]; exact congrArg (fun m => List.take m _) (by omega)) | exact (Wd.lines_no rfl ‹_› ‹_›).symm)))

set_option maxRecDepth 100000 in
theorem w_Words (s : List UInt8) (hs : s.length ≤ 1000000) : Tri prog 49 #[str s] [] [] (fun v L' => L' = [row v 9 1 ((Wd.wordsL s).map encS)]) := by
 have hpl_ := Wd.parts_len (p := Wd.bl) (e := 35) s
 refine Tri.enter (args := [str s]) (body := _) 21 func49 rfl ntmps49 rfl ?_
 intro w0
 refine J.seq <| J.region <| O.a rfl rfl <| O.nil <| J.seq <| J.region <| O.a rfl rfl <| O.nil <| J.seq <| J.seq <| J.region <| O.m rfl rfl ?_
 refine O.l (Lo.call [str s, .func (.func 87) #[] #[], .int .i32 35] (by exact call85) rfl (w_partedW s (by first | omega | (have h2_ := Wd.flt_le ((Wd.parts Wd.bl 35 s).take k); rw [← hout, List.length_take] at h2_; simp only [List.length_cons, List.length_nil]; omega))) [] [] (by decide) rfl [] rfl RoOk.nil) rfl ?_
 rintro v1 _ ⟨_, rfl, rfl⟩
 refine O.q (Qt.lenM runUnderlying72 rfl (Src.row 0 rfl)) rfl <| O.m rfl rfl <| O.nil <| J.block <| J.nilRow 9 1 <| J.loop (X := Nat × Value × List Wd.Bs) (fun ξ => ξ.1 ≤ (Wd.parts Wd.bl 35 s).length ∧ ξ.2.2 = Wd.flt ((Wd.parts Wd.bl 35 s).take ξ.1)) (fun ξ => [(2, Value.slice none 0 0), (3, ξ.2.1), (7, v1), (8, .int .i64 ((Wd.parts Wd.bl 35 s).length : Int)), (9, .int .i64 (ξ.1 : Int))]) (fun ξ => [row v1 9 1 ((Wd.parts Wd.bl 35 s).map encS), row ξ.2.1 9 1 (ξ.2.2.map encS)]) (fun ξ => (Wd.parts Wd.bl 35 s).length - ξ.1) ⟨0, Value.slice none 0 0, []⟩ (show 0 ≤ (Wd.parts Wd.bl 35 s).length ∧ ([]) = Wd.flt ((Wd.parts Wd.bl 35 s).take 0) from ⟨by omega, rfl⟩) ⟨rfl, rfl, rfl, rfl, (congrArg (fun z => some (Value.int .i64 z)) (by first | rfl | omega : (0 : Int) = (0 : Int))), trivial⟩ [1, 0] (by decide) rfl ?_
 rintro ⟨k, V, out⟩ hq2
 obtain ⟨hk, hout⟩ : k ≤ (Wd.parts Wd.bl 35 s).length ∧ out = Wd.flt ((Wd.parts Wd.bl 35 s).take k) := hq2
 show J _ _ [(2, Value.slice none 0 0), (3, V), (7, v1), (8, .int .i64 ((Wd.parts Wd.bl 35 s).length : Int)), (9, .int .i64 (k : Int))] [row v1 9 1 ((Wd.parts Wd.bl 35 s).map encS), row V 9 1 (out.map encS)]
 refine J.seq <| J.region <| O.p (Pu.lss rfl rfl) rfl <| O.nil <| J.seq ?_
 refine J.cond rfl (fun h3 => ?_) (fun h3 => ?_)
 ·
  have p4 := of_decide_eq_true h3
  refine J.skip <| J.seq <| J.block <| J.seq <| J.region ?_
  obtain ⟨e5, he5⟩ : ∃ x_, (Wd.parts Wd.bl 35 s)[k]? = some x_ := ⟨_, List.getElem?_eq_getElem (by first | omega | (have h2_ := Wd.flt_le ((Wd.parts Wd.bl 35 s).take k); rw [← hout, List.length_take] at h2_; simp only [List.length_cons, List.length_nil]; omega))⟩
  refine O.q (Qt.idxM runUnderlying72 sizeOf9 rfl (Src.row 0 rfl) rfl (by first | omega | (have h2_ := Wd.flt_le ((Wd.parts Wd.bl 35 s).take k); rw [← hout, List.length_take] at h2_; simp only [List.length_cons, List.length_nil]; omega)) (by first | omega | (have h2_ := Wd.flt_le ((Wd.parts Wd.bl 35 s).take k); rw [← hout, List.length_take] at h2_; simp only [List.length_cons, List.length_nil]; omega))) rfl <| O.q (Qt.ld rfl (Cel.eltM (Src.row 0 rfl) he5) (o := (voff v1 + k * 1)) (off := 0) (by omega) (Cut.one isAgg9 rfl)) rfl <| O.a rfl rfl <| O.nil <| J.seq <| J.region <| O.m rfl rfl <| O.p (Pu.sNeq rfl rfl) rfl <| O.nil ?_
  refine J.cond rfl (fun h6 => ?_) (fun h6 => ?_)
  ·
   have h7 : (e5 == ([] : List UInt8)) = false := not_flip h6
   refine J.region <| O.m rfl rfl <| O.m rfl rfl <| O.l (Lo.buildM (s := 1) encS [e5] [(0, str e5)] (by exact runUnderlying72) (by exact sizeOf9) (by exact zeroValue9) rfl rfl rfl (by kernel_rfl) rfl rfl) rfl ?_
   rintro V8 _ rfl
   refine O.l (Lo.appendM (s := 1) 2 (by exact underlying72) (by exact (info9).1) (by exact (info9).2.1) (by exact (info9).2.2.1) (by exact (info9).2.2.2) rfl rfl rfl rfl rfl (Src.row 0 rfl) encS.one (by first | omega | (have h2_ := Wd.flt_le ((Wd.parts Wd.bl 35 s).take k); rw [← hout, List.length_take] at h2_; simp only [List.length_cons, List.length_nil]; omega)) (by first | omega | (have h2_ := Wd.flt_le ((Wd.parts Wd.bl 35 s).take k); rw [← hout, List.length_take] at h2_; simp only [List.length_cons, List.length_nil]; omega))) rfl ?_
   rintro V9 _ rfl
   refine O.a rfl rfl <| O.nil <| J.blk <| J.region <| O.p (Pu.add' rfl rfl (by first | omega | (simp only [List.length_append, List.length_cons, List.length_nil, List.length_set]; omega))) rfl <| O.m rfl rfl <| O.nil ?_
   exact J.lp ⟨k + 1, V9, out ++ ([e5])⟩ (show (k + 1) ≤ (Wd.parts Wd.bl 35 s).length ∧ (out ++ ([e5])) = Wd.flt ((Wd.parts Wd.bl 35 s).take (k + 1)) from ⟨by omega, (by rw [hout]; first | exact (Wd.flt_next1 ‹_› ‹_›).symm | exact (Wd.flt_next0 ‹_› ‹_›).symm)⟩) (show (Wd.parts Wd.bl 35 s).length - (k + 1) < (Wd.parts Wd.bl 35 s).length - k from (by first | omega | (have h2_ := Wd.flt_le ((Wd.parts Wd.bl 35 s).take k); rw [← hout, List.length_take] at h2_; simp only [List.length_cons, List.length_nil]; omega))) ⟨rfl, rfl, rfl, rfl, (congrArg (fun z => some (Value.int .i64 z)) (by first | rfl | omega : ((k : Int) + 1 : Int) = ((k + 1) : Int))), trivial⟩ [1, 2] (by decide) rfl
  ·
   have h10 : (e5 == ([] : List UInt8)) = true := not_flip h6
   refine J.skip <| J.blk <| J.region <| O.p (Pu.add' rfl rfl (by first | omega | (simp only [List.length_append, List.length_cons, List.length_nil, List.length_set]; omega))) rfl <| O.m rfl rfl <| O.nil ?_
   exact J.lp ⟨k + 1, V, out⟩ (show (k + 1) ≤ (Wd.parts Wd.bl 35 s).length ∧ out = Wd.flt ((Wd.parts Wd.bl 35 s).take (k + 1)) from ⟨by omega, (by rw [hout]; first | exact (Wd.flt_next1 ‹_› ‹_›).symm | exact (Wd.flt_next0 ‹_› ‹_›).symm)⟩) (show (Wd.parts Wd.bl 35 s).length - (k + 1) < (Wd.parts Wd.bl 35 s).length - k from (by first | omega | (have h2_ := Wd.flt_le ((Wd.parts Wd.bl 35 s).take k); rw [← hout, List.length_take] at h2_; simp only [List.length_cons, List.length_nil]; omega))) ⟨rfl, rfl, rfl, rfl, (congrArg (fun z => some (Value.int .i64 z)) (by first | rfl | omega : ((k : Int) + 1 : Int) = ((k + 1) : Int))), trivial⟩ [0, 1] (by decide) rfl
 ·
  have p11 := of_decide_eq_false h3
  refine J.exit _ rfl <| J.seq <| J.region <| O.m rfl rfl <| O.a rfl rfl <| O.nil ?_
  exact J.ret (Fin.ret (rs := [.tmp 2]) rfl [_] ⟨rfl, trivial⟩ [1] (by decide) [row V 9 1 (out.map encS)] rfl (congrArg (fun (o : List Wd.Bs) => ([row V 9 1 (o.map encS)] : List Sp)) (by rw [hout]; show _ = Wd.flt (Wd.parts Wd.bl 35 s); rw [List.take_of_length_le (by omega)])))

end Go.Proofs.YtnhfgnnpbipcnaaGreatDoor
