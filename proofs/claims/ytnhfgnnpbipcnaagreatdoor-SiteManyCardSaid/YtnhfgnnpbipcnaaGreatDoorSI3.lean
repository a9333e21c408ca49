/-
  Walks, printed by a program of mine (lk.py): each function meets its contract.
-/
import Derived.KernelRfl
import Derived.Test.YtnhfgnnpbipcnaaGreatDoorSID
namespace Go.Proofs.YtnhfgnnpbipcnaaGreatDoor
open Go Go.LK Go.Proofs.Tryz
set_option linter.unusedSimpArgs false

set_option maxRecDepth 100000 in
set_option maxHeartbeats 1000000 in
theorem si_Usual (n : Nat) (h1 : 1 ≤ n) (h8 : n ≤ 8) : Tri prog 9 #[.int .i64 (n : Int)] [] [] (fun v L' => ∃ (V : Value) (l : List Sg), v = .tuple #[.agg #[.int .i64 2, .int .i64 4, .int .i64 1000, .int .u64 1, V], .int .i64 0] ∧ Si.dat l = Si.usK n n ∧ L' = [row V 47 14 (l.map Sg.cells), bun (l.map (Sg.row 50))]) := by
 refine Tri.enter (args := [.int .i64 (n : Int)]) (body := _) 43 func9 rfl ntmps9 rfl ?_
 intro w0
 refine J.seq <| J.region <| O.l (Lo.alloc [.int .i64 0, .int .i64 0, .int .i64 0, .int .u64 0, Value.slice none 0 0] (by exact zeroValue25) rfl) rfl ?_
 rintro _ _ ⟨g1, rfl, rfl⟩
 refine O.a rfl rfl <| O.nil <| J.seq <| J.seq <| J.region <| O.m rfl rfl <| O.p (Pu.lss rfl rfl) rfl <| O.m rfl rfl <| O.gq (t := 9) rfl rfl (decide_eq_false (by omega)) rfl (Pu.qt (Pu.move rfl)) rfl <| O.gq (t := 9) rfl rfl (decide_eq_false (by omega)) rfl (Pu.qt (Pu.gtr rfl rfl)) rfl <| O.p (Pu.pickF rfl (decide_eq_false (by omega)) rfl) rfl <| O.nil ?_
 refine J.condF rfl (decide_eq_false (by omega)) <| J.skip <| J.seq <| J.region <| O.p (Pu.build [(0, .int .i64 2), (1, .int .i64 4), (2, .int .i64 1000), (3, .int .u64 1)] [.int .i64 2, .int .i64 4, .int .i64 1000, .int .u64 1, Value.slice none 0 0] #[(0, 1), (1, 1), (2, 1), (3, 1), (4, 1)] runUnderlying25 zeroValue25 (places25 underlying25) rfl (by kernel_rfl)) rfl <| O.l (Lo.alloc [.int .i64 0, .int .i64 0, .int .i64 0, .int .u64 0, Value.slice none 0 0] (by exact zeroValue25) rfl) rfl ?_
 rintro _ _ ⟨g2, rfl, rfl⟩
 refine O.l0 (Lo.store 0 (vs := [.int .i64 2, .int .i64 4, .int .i64 1000, .int .u64 1, Value.slice none 0 0]) [.int .i64 2, .int .i64 4, .int .i64 1000, .int .u64 1, Value.slice none 0 0] rfl rfl rfl (by exact sizeOf25) rfl rfl rfl rfl rfl) ?_
 rintro _ _ rfl
 refine O.nil <| J.seq <| J.seq <| J.re (L' := [bun (([] : List Sg).map (Sg.row 50)), var g2 [.int .i64 2, .int .i64 4, .int .i64 1000, .int .u64 1, Value.slice none 0 0] 25, var g1 [.int .i64 0, .int .i64 0, .int .i64 0, .int .u64 0, Value.slice none 0 0] 25]) Re.new <| J.region <| O.m rfl rfl <| O.m rfl rfl <| O.nil <| J.block <| J.nilRow 47 14 <| J.loop (X := Nat × Value × List Sg) (fun ξ => ξ.1 ≤ n ∧ Si.dat ξ.2.2 = Si.usK n ξ.1 ∧ ξ.2.2.length = ξ.1) (fun ξ => [(0, .int .i64 (n : Int)), (2, .pointer (some ⟨g1, 0, none⟩)), (3, .int .i64 0), (4, .pointer (some ⟨g2, 0, none⟩)), (15, .int .i64 (n : Int)), (16, .int .i64 (ξ.1 : Int))]) (fun ξ => [bun (ξ.2.2.map (Sg.row 50)), var g1 [.int .i64 0, .int .i64 0, .int .i64 0, .int .u64 0, Value.slice none 0 0] 25, var g2 [.int .i64 2, .int .i64 4, .int .i64 1000, .int .u64 1, ξ.2.1] 25, row ξ.2.1 47 14 (ξ.2.2.map Sg.cells)]) (fun ξ => n - ξ.1) ⟨0, Value.slice none 0 0, ([] : List Sg)⟩ (show 0 ≤ n ∧ Si.dat ([] : List Sg) = Si.usK n 0 ∧ ([] : List Sg).length = 0 from ⟨by omega, rfl, rfl⟩) ⟨rfl, rfl, rfl, rfl, rfl, (congrArg (fun z => some (Value.int .i64 z)) (by first | rfl | omega : (0 : Int) = (0 : Int))), trivial⟩ [1, 3, 2, 0] (by decide) rfl ?_
 rintro ⟨k, V, l⟩ hq3
 obtain ⟨hk, hd, hlk⟩ : k ≤ n ∧ Si.dat l = Si.usK n k ∧ l.length = k := hq3
 show J _ _ [(0, .int .i64 (n : Int)), (2, .pointer (some ⟨g1, 0, none⟩)), (3, .int .i64 0), (4, .pointer (some ⟨g2, 0, none⟩)), (15, .int .i64 (n : Int)), (16, .int .i64 (k : Int))] [bun (l.map (Sg.row 50)), var g1 [.int .i64 0, .int .i64 0, .int .i64 0, .int .u64 0, Value.slice none 0 0] 25, var g2 [.int .i64 2, .int .i64 4, .int .i64 1000, .int .u64 1, V] 25, row V 47 14 (l.map Sg.cells)]
 refine J.seq <| J.region <| O.p (Pu.lss rfl rfl) rfl <| O.nil <| J.seq ?_
 refine J.cond rfl (fun h4 => ?_) (fun h4 => ?_)
 ·
  have p5 := of_decide_eq_true h4
  refine J.skip <| J.seq <| J.block <| J.seq <| J.region <| O.m rfl rfl <| O.a rfl rfl <| O.nil <| J.seq <| J.region <| O.p (Pu.fieldAddr (off' := 0) runUnderlying25 rfl sizeOf3 rfl rfl rfl) rfl <| O.q (Qt.ld rfl (Cel.var 2 rfl) (o := 0) (off := 0) rfl (Cut.one isAgg3 rfl)) rfl ?_
  refine O.p (Pu.fieldAddr (off' := 1) runUnderlying25 rfl sizeOf3 rfl rfl rfl) rfl <| O.q (Qt.ld rfl (Cel.var 2 rfl) (o := 0) (off := 1) rfl (Cut.one isAgg3 rfl)) rfl <| O.p (Pu.mul' rfl rfl (by omega)) rfl <| O.l (Lo.call [.int .i64 (2 * 4)] (by exact call21) rfl (kn_Usual (2 * 4)) [] [0, 1, 2, 3] (by decide) rfl [bun (l.map (Sg.row 50)), var g1 [.int .i64 0, .int .i64 0, .int .i64 0, .int .u64 0, Value.slice none 0 0] 25, var g2 [.int .i64 2, .int .i64 4, .int .i64 1000, .int .u64 1, V] 25, row V 47 14 (l.map Sg.cells)] rfl RoOk.nil) rfl ?_
  rintro _ _ ⟨_, ⟨rfl, rfl⟩, rfl⟩
  refine O.p (Pu.build [(0, .int .i64 1), (1, .int .i64 4), (2, .int .i64 10), (3, .int .i64 1), (4, .int .i64 64), (5, .int .i64 20), (6, .agg #[.int .i64 1, .int .i64 4, .int .i64 10, .int .i64 5, .int .i64 1, .int .i64 3, .int .i64 2])] [.int .i64 1, .int .i64 4, .int .i64 10, .int .i64 1, .int .i64 64, .int .i64 20, .int .i64 1, .int .i64 4, .int .i64 10, .int .i64 5, .int .i64 1, .int .i64 3, .int .i64 2, Value.slice none 0 0] #[(0, 1), (1, 1), (2, 1), (3, 1), (4, 1), (5, 1), (6, 7), (13, 1)] runUnderlying47 zeroValue47 (places47 underlying47) rfl (by kernel_rfl)) rfl <| O.l (Lo.alloc [.int .i64 0, .int .i64 0, .int .i64 0, .int .i64 0, .int .i64 0, .int .i64 0, .int .i64 0, .int .i64 0, .int .i64 0, .int .i64 0, .int .i64 0, .int .i64 0, .int .i64 0, Value.slice none 0 0] (by exact zeroValue47) rfl) rfl ?_
  rintro _ _ ⟨g7, rfl, rfl⟩
  refine O.l0 (Lo.store 0 (vs := [.int .i64 1, .int .i64 4, .int .i64 10, .int .i64 1, .int .i64 64, .int .i64 20, .int .i64 1, .int .i64 4, .int .i64 10, .int .i64 5, .int .i64 1, .int .i64 3, .int .i64 2, Value.slice none 0 0]) [.int .i64 1, .int .i64 4, .int .i64 10, .int .i64 1, .int .i64 64, .int .i64 20, .int .i64 1, .int .i64 4, .int .i64 10, .int .i64 5, .int .i64 1, .int .i64 3, .int .i64 2, Value.slice none 0 0] rfl rfl rfl (by exact sizeOf47) rfl rfl rfl rfl rfl) ?_
  rintro _ _ rfl
  refine O.nil <| J.seq <| J.seq <| J.region <| O.m rfl rfl <| O.m rfl rfl <| O.p (Pu.sub' rfl rfl (by omega)) rfl <| O.p (Pu.lss rfl rfl) rfl <| O.nil ?_
  refine J.cond rfl (fun h8 => ?_) (fun h8 => ?_)
  ·
   have p9 := of_decide_eq_true h8
   refine J.region <| O.m rfl rfl <| O.p (Pu.add' rfl rfl (by omega)) rfl <| O.p (Pu.build [(0, .int .i64 ((k : Int) + 1)), (2, .int .i64 6), (3, .int .i64 20)] [.int .i64 ((k : Int) + 1), .int .i64 0, .int .i64 6, .int .i64 20] #[(0, 1), (1, 1), (2, 1), (3, 1)] runUnderlying50 zeroValue50 (places50 underlying50) rfl (by kernel_rfl)) rfl <| O.l (Lo.buildM (s := 4) Cl.cells [(⟨(k : Int) + 1, 0, 6, 20⟩ : Cl)] [(0, .agg #[.int .i64 ((k : Int) + 1), .int .i64 0, .int .i64 6, .int .i64 20])] (by exact runUnderlying45) (by exact sizeOf50) (by exact zeroValue50) rfl rfl rfl (by kernel_rfl) rfl rfl) rfl ?_
   rintro V10 _ rfl
   refine O.p (Pu.fieldAddr (off' := 13) runUnderlying47 rfl sizeOf45 rfl rfl rfl) rfl ?_
   refine O.one (Src.row 0 rfl) (fun hV11 => ?_)
   refine O.l0 (Lo.store 1 (vs := [V10]) [.int .i64 1, .int .i64 4, .int .i64 10, .int .i64 1, .int .i64 64, .int .i64 20, .int .i64 1, .int .i64 4, .int .i64 10, .int .i64 5, .int .i64 1, .int .i64 3, .int .i64 2, V10] rfl rfl rfl (by exact sizeOf45) (one_cells hV11) rfl (one_all hV11) rfl rfl) ?_
   rintro _ _ rfl
   refine O.nil ?_
   refine J.one (Src.row 0 rfl) (fun hV => ?_)
   refine J.region <| O.p (Pu.fieldAddr (off' := 4) runUnderlying25 rfl sizeOf23 rfl rfl rfl) rfl <| O.q (Qt.ld rfl (Cel.var 4 rfl) (o := 0) (off := 4) rfl (Cut.one isAgg23 rfl)) rfl <| O.q (Qt.ld rfl (Cel.var 1 rfl) (o := 0) (off := 0) rfl (Cut.agg [.int .i64 1, .int .i64 4, .int .i64 10, .int .i64 1, .int .i64 64, .int .i64 20, .int .i64 1, .int .i64 4, .int .i64 10, .int .i64 5, .int .i64 1, .int .i64 3, .int .i64 2, V10] isAgg47 sizeOf47 rfl rfl)) rfl <| O.l (Lo.buildM (s := 14) Sg.cells [(⟨1, 4, 10, 1, 64, 20, 1, 4, 10, 5, 1, 3, 2, V10, [(⟨(k : Int) + 1, 0, 6, 20⟩ : Cl)], hV⟩ : Sg)] [(0, .agg #[.int .i64 1, .int .i64 4, .int .i64 10, .int .i64 1, .int .i64 64, .int .i64 20, .int .i64 1, .int .i64 4, .int .i64 10, .int .i64 5, .int .i64 1, .int .i64 3, .int .i64 2, V10])] (by exact runUnderlying23) (by exact sizeOf47) (by exact zeroValue47) rfl rfl rfl (by cases V10 <;> first | (simp [Value.oneCell'] at hV; done) | kernel_rfl) rfl rfl) rfl ?_
   rintro V12 _ rfl
   refine O.l (Lo.appendM (s := 14) 6 (by exact underlying23) (by exact (info47).1) (by exact (info47).2.1) (by exact (info47).2.2.1) (by exact (info47).2.2.2) rfl rfl rfl rfl rfl (Src.row 0 rfl) Sg.one (by first | omega | (simp only [List.length_append, List.length_cons, List.length_nil]; omega)) (by first | omega | (simp only [List.length_append, List.length_cons, List.length_nil]; omega))) rfl ?_
   rintro V13 _ rfl
   refine O.p (Pu.fieldAddr (off' := 4) runUnderlying25 rfl sizeOf23 rfl rfl rfl) rfl ?_
   refine O.one (Src.row 6 rfl) (fun hV14 => ?_)
   refine O.l0 (Lo.store 5 (vs := [V13]) [.int .i64 2, .int .i64 4, .int .i64 1000, .int .u64 1, V13] rfl rfl rfl (by exact sizeOf23) (one_cells hV14) rfl (one_all hV14) rfl rfl) ?_
   rintro _ _ rfl
   refine O.nil <| J.blk <| J.re (L' := [bun ((l ++ ([(⟨1, 4, 10, 1, 64, 20, 1, 4, 10, 5, 1, 3, 2, V10, [(⟨(k : Int) + 1, 0, 6, 20⟩ : Cl)], hV⟩ : Sg)])).map (Sg.row 50)), row V12 47 14 (([(⟨1, 4, 10, 1, 64, 20, 1, 4, 10, 5, 1, 3, 2, V10, [(⟨(k : Int) + 1, 0, 6, 20⟩ : Cl)], hV⟩ : Sg)]).map Sg.cells), var g7 [.int .i64 1, .int .i64 4, .int .i64 10, .int .i64 1, .int .i64 64, .int .i64 20, .int .i64 1, .int .i64 4, .int .i64 10, .int .i64 5, .int .i64 1, .int .i64 3, .int .i64 2, V10] 47, var g1 [.int .i64 0, .int .i64 0, .int .i64 0, .int .u64 0, Value.slice none 0 0] 25, var g2 [.int .i64 2, .int .i64 4, .int .i64 1000, .int .u64 1, V13] 25, row V13 47 14 ((l ++ ([(⟨1, 4, 10, 1, 64, 20, 1, 4, 10, 5, 1, 3, 2, V10, [(⟨(k : Int) + 1, 0, 6, 20⟩ : Cl)], hV⟩ : Sg)])).map Sg.cells)]) (Re.trans (Re.sel [1, 3, 0, 2, 4, 5, 6] (by decide) rfl) (Si.sg_into rfl rfl)) <| J.region <| O.p (Pu.add' rfl rfl (by omega)) rfl <| O.m rfl rfl <| O.nil ?_
   exact J.lp ⟨k + 1, V13, l ++ ([(⟨1, 4, 10, 1, 64, 20, 1, 4, 10, 5, 1, 3, 2, V10, [(⟨(k : Int) + 1, 0, 6, 20⟩ : Cl)], hV⟩ : Sg)])⟩ (show (k + 1) ≤ n ∧ Si.dat (l ++ ([(⟨1, 4, 10, 1, 64, 20, 1, 4, 10, 5, 1, 3, 2, V10, [(⟨(k : Int) + 1, 0, 6, 20⟩ : Cl)], hV⟩ : Sg)])) = Si.usK n (k + 1) ∧ (l ++ ([(⟨1, 4, 10, 1, 64, 20, 1, 4, 10, 5, 1, 3, 2, V10, [(⟨(k : Int) + 1, 0, 6, 20⟩ : Cl)], hV⟩ : Sg)])).length = (k + 1) from ⟨by omega, Si.us_next hd (Si.usd_yes (by omega)).symm, (by simp only [List.length_append, List.length_cons, List.length_nil]; omega)⟩) (show n - (k + 1) < n - k from (by first | omega | (simp only [List.length_append, List.length_cons, List.length_nil]; omega))) ⟨rfl, rfl, rfl, rfl, rfl, (congrArg (fun z => some (Value.int .i64 z)) (by first | rfl | omega : ((k : Int) + 1 : Int) = ((k + 1) : Int))), trivial⟩ [0, 3, 4, 5] (by decide) rfl
  ·
   have p15 := of_decide_eq_false h8
   refine J.skip <| J.nilRow 50 4 ?_
   show J _ _ _ [row (Value.slice none 0 0) 50 4 (([] : List Cl).map Cl.cells), var g7 [.int .i64 1, .int .i64 4, .int .i64 10, .int .i64 1, .int .i64 64, .int .i64 20, .int .i64 1, .int .i64 4, .int .i64 10, .int .i64 5, .int .i64 1, .int .i64 3, .int .i64 2, Value.slice none 0 0] 47, bun (l.map (Sg.row 50)), var g1 [.int .i64 0, .int .i64 0, .int .i64 0, .int .u64 0, Value.slice none 0 0] 25, var g2 [.int .i64 2, .int .i64 4, .int .i64 1000, .int .u64 1, V] 25, row V 47 14 (l.map Sg.cells)]
   refine J.region <| O.p (Pu.fieldAddr (off' := 4) runUnderlying25 rfl sizeOf23 rfl rfl rfl) rfl <| O.q (Qt.ld rfl (Cel.var 4 rfl) (o := 0) (off := 4) rfl (Cut.one isAgg23 rfl)) rfl <| O.q (Qt.ld rfl (Cel.var 1 rfl) (o := 0) (off := 0) rfl (Cut.agg [.int .i64 1, .int .i64 4, .int .i64 10, .int .i64 1, .int .i64 64, .int .i64 20, .int .i64 1, .int .i64 4, .int .i64 10, .int .i64 5, .int .i64 1, .int .i64 3, .int .i64 2, Value.slice none 0 0] isAgg47 sizeOf47 rfl rfl)) rfl <| O.l (Lo.buildM (s := 14) Sg.cells [(⟨1, 4, 10, 1, 64, 20, 1, 4, 10, 5, 1, 3, 2, Value.slice none 0 0, ([] : List Cl), rfl⟩ : Sg)] [(0, .agg #[.int .i64 1, .int .i64 4, .int .i64 10, .int .i64 1, .int .i64 64, .int .i64 20, .int .i64 1, .int .i64 4, .int .i64 10, .int .i64 5, .int .i64 1, .int .i64 3, .int .i64 2, Value.slice none 0 0])] (by exact runUnderlying23) (by exact sizeOf47) (by exact zeroValue47) rfl rfl rfl (by kernel_rfl) rfl rfl) rfl ?_
   rintro V16 _ rfl
   refine O.l (Lo.appendM (s := 14) 6 (by exact underlying23) (by exact (info47).1) (by exact (info47).2.1) (by exact (info47).2.2.1) (by exact (info47).2.2.2) rfl rfl rfl rfl rfl (Src.row 0 rfl) Sg.one (by first | omega | (simp only [List.length_append, List.length_cons, List.length_nil]; omega)) (by first | omega | (simp only [List.length_append, List.length_cons, List.length_nil]; omega))) rfl ?_
   rintro V17 _ rfl
   refine O.p (Pu.fieldAddr (off' := 4) runUnderlying25 rfl sizeOf23 rfl rfl rfl) rfl ?_
   refine O.one (Src.row 6 rfl) (fun hV18 => ?_)
   refine O.l0 (Lo.store 5 (vs := [V17]) [.int .i64 2, .int .i64 4, .int .i64 1000, .int .u64 1, V17] rfl rfl rfl (by exact sizeOf23) (one_cells hV18) rfl (one_all hV18) rfl rfl) ?_
   rintro _ _ rfl
   refine O.nil <| J.blk <| J.re (L' := [bun ((l ++ ([(⟨1, 4, 10, 1, 64, 20, 1, 4, 10, 5, 1, 3, 2, Value.slice none 0 0, ([] : List Cl), rfl⟩ : Sg)])).map (Sg.row 50)), row V16 47 14 (([(⟨1, 4, 10, 1, 64, 20, 1, 4, 10, 5, 1, 3, 2, Value.slice none 0 0, ([] : List Cl), rfl⟩ : Sg)]).map Sg.cells), var g7 [.int .i64 1, .int .i64 4, .int .i64 10, .int .i64 1, .int .i64 64, .int .i64 20, .int .i64 1, .int .i64 4, .int .i64 10, .int .i64 5, .int .i64 1, .int .i64 3, .int .i64 2, Value.slice none 0 0] 47, var g1 [.int .i64 0, .int .i64 0, .int .i64 0, .int .u64 0, Value.slice none 0 0] 25, var g2 [.int .i64 2, .int .i64 4, .int .i64 1000, .int .u64 1, V17] 25, row V17 47 14 ((l ++ ([(⟨1, 4, 10, 1, 64, 20, 1, 4, 10, 5, 1, 3, 2, Value.slice none 0 0, ([] : List Cl), rfl⟩ : Sg)])).map Sg.cells)]) (Re.trans (Re.sel [1, 3, 0, 2, 4, 5, 6] (by decide) rfl) (Si.sg_into rfl rfl)) <| J.region <| O.p (Pu.add' rfl rfl (by omega)) rfl <| O.m rfl rfl <| O.nil ?_
   exact J.lp ⟨k + 1, V17, l ++ ([(⟨1, 4, 10, 1, 64, 20, 1, 4, 10, 5, 1, 3, 2, Value.slice none 0 0, ([] : List Cl), rfl⟩ : Sg)])⟩ (show (k + 1) ≤ n ∧ Si.dat (l ++ ([(⟨1, 4, 10, 1, 64, 20, 1, 4, 10, 5, 1, 3, 2, Value.slice none 0 0, ([] : List Cl), rfl⟩ : Sg)])) = Si.usK n (k + 1) ∧ (l ++ ([(⟨1, 4, 10, 1, 64, 20, 1, 4, 10, 5, 1, 3, 2, Value.slice none 0 0, ([] : List Cl), rfl⟩ : Sg)])).length = (k + 1) from ⟨by omega, Si.us_next hd (Si.usd_no (by omega)).symm, (by simp only [List.length_append, List.length_cons, List.length_nil]; omega)⟩) (show n - (k + 1) < n - k from (by first | omega | (simp only [List.length_append, List.length_cons, List.length_nil]; omega))) ⟨rfl, rfl, rfl, rfl, rfl, (congrArg (fun z => some (Value.int .i64 z)) (by first | rfl | omega : ((k : Int) + 1 : Int) = ((k + 1) : Int))), trivial⟩ [0, 3, 4, 5] (by decide) rfl
 ·
  have p19 := of_decide_eq_false h4
  refine J.exit _ rfl <| J.seq <| J.region <| O.q (Qt.ld rfl (Cel.var 2 rfl) (o := 0) (off := 0) rfl (Cut.agg [.int .i64 2, .int .i64 4, .int .i64 1000, .int .u64 1, V] isAgg25 sizeOf25 rfl rfl)) rfl ?_
  refine O.one (Src.row 3 rfl) (fun hV20 => ?_)
  refine O.l0 (Lo.store 1 (vs := [.int .i64 2, .int .i64 4, .int .i64 1000, .int .u64 1, V]) [.int .i64 2, .int .i64 4, .int .i64 1000, .int .u64 1, V] rfl rfl rfl (by exact sizeOf25) rfl rfl (by simp only [List.all_cons, List.all_nil, Bool.and_true, hV20] <;> rfl) rfl rfl) ?_
  rintro _ _ rfl
  refine O.a rfl rfl <| O.nil ?_
  exact J.ret (Fin.ret (rs := [.cell 2 25, .tmp 3]) rfl [_, _] ⟨⟨_, _, 0, 0, _, rfl, (Cel.var 1 rfl), rfl, (Cut.agg [.int .i64 2, .int .i64 4, .int .i64 1000, .int .u64 1, V] isAgg25 sizeOf25 rfl rfl)⟩, rfl, trivial⟩ [3, 0] (by decide) [row V 47 14 (l.map Sg.cells), bun (l.map (Sg.row 50))] rfl ⟨V, l, rfl, (by rw [hd, show k = n from by omega]), rfl⟩)

end Go.Proofs.YtnhfgnnpbipcnaaGreatDoor
