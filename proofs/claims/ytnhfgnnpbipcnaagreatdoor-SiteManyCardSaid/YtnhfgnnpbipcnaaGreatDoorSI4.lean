/-
  Walks, printed by a program of mine (lk.py): each function meets its contract.
-/
import Derived.KernelRfl
import Derived.Test.YtnhfgnnpbipcnaaGreatDoorSI3
namespace Go.Proofs.YtnhfgnnpbipcnaaGreatDoor
open Go Go.LK Go.Proofs.Tryz
set_option linter.unusedSimpArgs false

set_option maxRecDepth 100000 in
theorem sl_EqualFunc (sv : Value) (l : List Sg) (sv2 : Value) (l2 : List Sg) (hl : l.length ≤ 30000) (hc : ∀ s ∈ l, s.cl.length ≤ 30000) (hl2 : l2.length ≤ 30000) (hc2 : ∀ s ∈ l2, s.cl.length ≤ 30000) : Tri prog 45 #[sv, sv2, .func (.func 46) #[] #[]] [rd sv 14 (l.map Sg.cells), ros (l.map Sg.rd), rd sv2 14 (l2.map Sg.cells), ros (l2.map Sg.rd)] [] (fun v L' => v = .bool (decide (l.length = l2.length) && Si.sameN l l2 l.length) ∧ L' = []) := by
 refine Tri.enter (args := [sv, sv2, .func (.func 46) #[] #[]]) (body := _) 32 func45 rfl ntmps45 rfl ?_
 intro w0
 refine J.seq <| J.region <| O.a rfl rfl <| O.nil <| J.seq <| J.seq <| J.region <| O.m rfl rfl <| O.q (Qt.lenM runUnderlying23 rfl (Src.ro 0 rfl)) rfl <| O.m rfl rfl <| O.q (Qt.lenM runUnderlying23 rfl (Src.ro 2 rfl)) rfl <| O.p (Pu.neq rfl rfl) rfl ?_
 refine O.nil ?_
 refine J.cond rfl (fun h1 => ?_) (fun h1 => ?_)
 ·
  have p2 := of_decide_eq_true h1
  refine J.seq <| J.region <| O.a rfl rfl <| O.nil ?_
  exact J.ret (Fin.ret (rs := [.tmp 6]) rfl [_] ⟨rfl, trivial⟩ [] (by decide) [] rfl ⟨(by rw [decide_eq_false (by omega)]; rfl), rfl⟩)
 ·
  have p3 := of_decide_eq_false h1
  refine J.skip <| J.seq <| J.seq <| J.region <| O.m rfl rfl <| O.q (Qt.lenM runUnderlying23 rfl (Src.ro 0 rfl)) rfl <| O.m rfl rfl <| O.nil <| J.block <| J.loop (X := Nat) (fun ξ => ξ ≤ l.length ∧ l.length = l2.length ∧ Si.sameN l l2 ξ = true) (fun ξ => [(1, sv2), (2, .func (.func 46) #[] #[]), (15, sv), (16, .int .i64 (l.length : Int)), (17, .int .i64 (ξ : Int))]) (fun ξ => []) (fun ξ => l.length - ξ) 0 (show 0 ≤ l.length ∧ l.length = l2.length ∧ Si.sameN l l2 0 = true from ⟨by omega, by omega, Si.sameN_zero⟩) ⟨rfl, rfl, rfl, rfl, (congrArg (fun z => some (Value.int .i64 z)) (by first | rfl | omega : (0 : Int) = (0 : Int))), trivial⟩ [] (by decide) rfl ?_
  rintro k hq4
  obtain ⟨hk, hle, hN⟩ : k ≤ l.length ∧ l.length = l2.length ∧ Si.sameN l l2 k = true := hq4
  show J _ _ [(1, sv2), (2, .func (.func 46) #[] #[]), (15, sv), (16, .int .i64 (l.length : Int)), (17, .int .i64 (k : Int))] []
  refine J.seq <| J.region <| O.p (Pu.lss rfl rfl) rfl <| O.nil <| J.seq ?_
  refine J.cond rfl (fun h5 => ?_) (fun h5 => ?_)
  ·
   have p6 := of_decide_eq_true h5
   refine J.skip <| J.seq <| J.block <| J.seq ?_
   obtain ⟨e7, he7⟩ : ∃ x_, l[k]? = some x_ := ⟨_, List.getElem?_eq_getElem (by omega)⟩
   refine J.ros 1 rfl (A := rd e7.cv 4 (e7.cl.map Cl.cells)) (List.mem_map.2 ⟨e7, List.mem_of_getElem? he7, rfl⟩) ?_
   have hhc_ := hc _ (List.mem_of_getElem? he7)
   obtain ⟨e8, he8⟩ : ∃ x_, l2[k]? = some x_ := ⟨_, List.getElem?_eq_getElem (by omega)⟩
   refine J.ros 3 rfl (A := rd e8.cv 4 (e8.cl.map Cl.cells)) (List.mem_map.2 ⟨e8, List.mem_of_getElem? he8, rfl⟩) ?_
   have hhc2_ := hc2 _ (List.mem_of_getElem? he8)
   refine J.region <| O.m rfl rfl <| O.q (Qt.idxM runUnderlying23 sizeOf47 rfl (Src.ro 0 rfl) rfl (by omega) (by omega)) rfl <| O.q (Qt.ld rfl (Cel.eltM (Src.ro 0 rfl) he7) (o := (voff sv + k * 14)) (off := 0) (by omega) (Cut.agg [.int .i64 e7.x0, .int .i64 e7.x1, .int .i64 e7.x2, .int .i64 e7.x3, .int .i64 e7.x4, .int .i64 e7.x5, .int .i64 e7.x6, .int .i64 e7.x7, .int .i64 e7.x8, .int .i64 e7.x9, .int .i64 e7.x10, .int .i64 e7.x11, .int .i64 e7.x12, e7.cv] isAgg47 sizeOf47 rfl rfl)) rfl <| O.l (Lo.alloc [.int .i64 0, .int .i64 0, .int .i64 0, .int .i64 0, .int .i64 0, .int .i64 0, .int .i64 0, .int .i64 0, .int .i64 0, .int .i64 0, .int .i64 0, .int .i64 0, .int .i64 0, Value.slice none 0 0] (by exact zeroValue47) rfl) rfl ?_
   rintro _ _ ⟨g9, rfl, rfl⟩
   refine O.a rfl rfl ?_
   refine O.one (Src.ro 4 rfl) (fun hV10 => ?_)
   refine O.l0 (Lo.store 0 (vs := [.int .i64 e7.x0, .int .i64 e7.x1, .int .i64 e7.x2, .int .i64 e7.x3, .int .i64 e7.x4, .int .i64 e7.x5, .int .i64 e7.x6, .int .i64 e7.x7, .int .i64 e7.x8, .int .i64 e7.x9, .int .i64 e7.x10, .int .i64 e7.x11, .int .i64 e7.x12, e7.cv]) [.int .i64 e7.x0, .int .i64 e7.x1, .int .i64 e7.x2, .int .i64 e7.x3, .int .i64 e7.x4, .int .i64 e7.x5, .int .i64 e7.x6, .int .i64 e7.x7, .int .i64 e7.x8, .int .i64 e7.x9, .int .i64 e7.x10, .int .i64 e7.x11, .int .i64 e7.x12, e7.cv] rfl rfl rfl (by exact sizeOf47) rfl rfl (by simp only [List.all_cons, List.all_nil, Bool.and_true, hV10] <;> rfl) rfl rfl) ?_
   rintro _ _ rfl
   refine O.nil <| J.seq <| J.region <| O.m rfl rfl <| O.m rfl rfl <| O.q (Qt.idxM runUnderlying23 sizeOf47 rfl (Src.ro 2 rfl) rfl (by omega) (by omega)) rfl <| O.q (Qt.ld rfl (Cel.eltM (Src.ro 2 rfl) he8) (o := (voff sv2 + k * 14)) (off := 0) (by omega) (Cut.agg [.int .i64 e8.x0, .int .i64 e8.x1, .int .i64 e8.x2, .int .i64 e8.x3, .int .i64 e8.x4, .int .i64 e8.x5, .int .i64 e8.x6, .int .i64 e8.x7, .int .i64 e8.x8, .int .i64 e8.x9, .int .i64 e8.x10, .int .i64 e8.x11, .int .i64 e8.x12, e8.cv] isAgg47 sizeOf47 rfl rfl)) rfl <| O.l (Lo.alloc [.int .i64 0, .int .i64 0, .int .i64 0, .int .i64 0, .int .i64 0, .int .i64 0, .int .i64 0, .int .i64 0, .int .i64 0, .int .i64 0, .int .i64 0, .int .i64 0, .int .i64 0, Value.slice none 0 0] (by exact zeroValue47) rfl) rfl ?_
   rintro _ _ ⟨g11, rfl, rfl⟩
   refine O.one (Src.ro 5 rfl) (fun hV12 => ?_)
   refine O.l0 (Lo.store 0 (vs := [.int .i64 e8.x0, .int .i64 e8.x1, .int .i64 e8.x2, .int .i64 e8.x3, .int .i64 e8.x4, .int .i64 e8.x5, .int .i64 e8.x6, .int .i64 e8.x7, .int .i64 e8.x8, .int .i64 e8.x9, .int .i64 e8.x10, .int .i64 e8.x11, .int .i64 e8.x12, e8.cv]) [.int .i64 e8.x0, .int .i64 e8.x1, .int .i64 e8.x2, .int .i64 e8.x3, .int .i64 e8.x4, .int .i64 e8.x5, .int .i64 e8.x6, .int .i64 e8.x7, .int .i64 e8.x8, .int .i64 e8.x9, .int .i64 e8.x10, .int .i64 e8.x11, .int .i64 e8.x12, e8.cv] rfl rfl rfl (by exact sizeOf47) rfl rfl (by simp only [List.all_cons, List.all_nil, Bool.and_true, hV12] <;> rfl) rfl rfl) ?_
   rintro _ _ rfl
   refine O.nil <| J.seq <| J.region <| O.m rfl rfl <| O.q (Qt.ld rfl (Cel.var 1 rfl) (o := 0) (off := 0) rfl (Cut.agg [.int .i64 e7.x0, .int .i64 e7.x1, .int .i64 e7.x2, .int .i64 e7.x3, .int .i64 e7.x4, .int .i64 e7.x5, .int .i64 e7.x6, .int .i64 e7.x7, .int .i64 e7.x8, .int .i64 e7.x9, .int .i64 e7.x10, .int .i64 e7.x11, .int .i64 e7.x12, e7.cv] isAgg47 sizeOf47 rfl rfl)) rfl <| O.q (Qt.ld rfl (Cel.var 0 rfl) (o := 0) (off := 0) rfl (Cut.agg [.int .i64 e8.x0, .int .i64 e8.x1, .int .i64 e8.x2, .int .i64 e8.x3, .int .i64 e8.x4, .int .i64 e8.x5, .int .i64 e8.x6, .int .i64 e8.x7, .int .i64 e8.x8, .int .i64 e8.x9, .int .i64 e8.x10, .int .i64 e8.x11, .int .i64 e8.x12, e8.cv] isAgg47 sizeOf47 rfl rfl)) rfl <| O.l (Lo.callV (vs := [.agg #[.int .i64 e7.x0, .int .i64 e7.x1, .int .i64 e7.x2, .int .i64 e7.x3, .int .i64 e7.x4, .int .i64 e7.x5, .int .i64 e7.x6, .int .i64 e7.x7, .int .i64 e7.x8, .int .i64 e7.x9, .int .i64 e7.x10, .int .i64 e7.x11, .int .i64 e7.x12, e7.cv], .agg #[.int .i64 e8.x0, .int .i64 e8.x1, .int .i64 e8.x2, .int .i64 e8.x3, .int .i64 e8.x4, .int .i64 e8.x5, .int .i64 e8.x6, .int .i64 e8.x7, .int .i64 e8.x8, .int .i64 e8.x9, .int .i64 e8.x10, .int .i64 e8.x11, .int .i64 e8.x12, e8.cv]]) (caps := []) (by exact call46) rfl rfl (cf_Same e7.x0 e7.x1 e7.x2 e7.x3 e7.x4 e7.x5 e7.x6 e7.x7 e7.x8 e7.x9 e7.x10 e7.x11 e7.x12 e8.x0 e8.x1 e8.x2 e8.x3 e8.x4 e8.x5 e8.x6 e8.x7 e8.x8 e8.x9 e8.x10 e8.x11 e8.x12 e7.cv e8.cv e7.cl e8.cl (by omega) (by omega)) [] [0, 1] (by decide) rfl [var g11 [.int .i64 e8.x0, .int .i64 e8.x1, .int .i64 e8.x2, .int .i64 e8.x3, .int .i64 e8.x4, .int .i64 e8.x5, .int .i64 e8.x6, .int .i64 e8.x7, .int .i64 e8.x8, .int .i64 e8.x9, .int .i64 e8.x10, .int .i64 e8.x11, .int .i64 e8.x12, e8.cv] 47, var g9 [.int .i64 e7.x0, .int .i64 e7.x1, .int .i64 e7.x2, .int .i64 e7.x3, .int .i64 e7.x4, .int .i64 e7.x5, .int .i64 e7.x6, .int .i64 e7.x7, .int .i64 e7.x8, .int .i64 e7.x9, .int .i64 e7.x10, .int .i64 e7.x11, .int .i64 e7.x12, e7.cv] 47] rfl (RoOk.ro 4 rfl [] rfl (RoOk.ro 5 rfl [] rfl RoOk.nil))) rfl ?_
   rintro _ _ ⟨_, ⟨rfl, rfl⟩, rfl⟩
   refine O.p (Pu.not rfl) rfl <| O.nil ?_
   refine J.cond rfl (fun h14 => ?_) (fun h14 => ?_)
   ·
    have h15 : (Cf.sameI [e7.x0, e7.x1, e7.x2, e7.x3, e7.x4, e7.x5, e7.x6, e7.x7, e7.x8, e7.x9, e7.x10, e7.x11, e7.x12] [e8.x0, e8.x1, e8.x2, e8.x3, e8.x4, e8.x5, e8.x6, e8.x7, e8.x8, e8.x9, e8.x10, e8.x11, e8.x12] && Cf.sameC e7.cl e8.cl) = false := not_flip h14
    refine J.seq <| J.region <| O.a rfl rfl <| O.nil ?_
    exact J.ret (Fin.ret (rs := [.tmp 6]) rfl [_] ⟨rfl, trivial⟩ [] (by decide) [] rfl ⟨(by rw [Si.sameN_bad he7 he8 (show Si.sameS e7 e8 = false from ‹_›), Bool.and_false]; rfl), rfl⟩)
   ·
    have h16 : (Cf.sameI [e7.x0, e7.x1, e7.x2, e7.x3, e7.x4, e7.x5, e7.x6, e7.x7, e7.x8, e7.x9, e7.x10, e7.x11, e7.x12] [e8.x0, e8.x1, e8.x2, e8.x3, e8.x4, e8.x5, e8.x6, e8.x7, e8.x8, e8.x9, e8.x10, e8.x11, e8.x12] && Cf.sameC e7.cl e8.cl) = true := not_flip h14
    refine J.skip <| J.blk <| J.region <| O.p (Pu.add' rfl rfl (by first | omega | (simp only [List.length_append, List.length_cons, List.length_nil, List.length_set]; omega))) rfl <| O.m rfl rfl <| O.nil ?_
    exact J.lp (k + 1) (show (k + 1) ≤ l.length ∧ l.length = l2.length ∧ Si.sameN l l2 (k + 1) = true from ⟨by omega, hle, Si.sameN_next hN he7 he8 (show Si.sameS e7 e8 = true from ‹_›)⟩) (show l.length - (k + 1) < l.length - k from (by omega)) ⟨rfl, rfl, rfl, rfl, (congrArg (fun z => some (Value.int .i64 z)) (by first | rfl | omega : ((k : Int) + 1 : Int) = ((k + 1) : Int))), trivial⟩ [] (by decide) rfl
  ·
   have p17 := of_decide_eq_false h5
   refine J.exit _ rfl <| J.seq <| J.region <| O.a rfl rfl <| O.nil ?_
   exact J.ret (Fin.ret (rs := [.tmp 6]) rfl [_] ⟨rfl, trivial⟩ [] (by decide) [] rfl ⟨(by rw [decide_eq_true hle, show l.length = k from by omega, hN]; rfl), rfl⟩)

set_option maxRecDepth 100000 in
set_option maxHeartbeats 1000000 in
theorem si_Same (b c r : Int) (n : Nat) (sv : Value) (l : List Sg) (b2 c2 r2 : Int) (n2 : Nat) (sv2 : Value) (l2 : List Sg) (hl : l.length ≤ 30000) (hc : ∀ s ∈ l, s.cl.length ≤ 30000) (hl2 : l2.length ≤ 30000) (hc2 : ∀ s ∈ l2, s.cl.length ≤ 30000) : Tri prog 18 #[.agg #[.int .i64 b, .int .i64 c, .int .i64 r, .int .u64 (Nat.cast n : Int), sv], .agg #[.int .i64 b2, .int .i64 c2, .int .i64 r2, .int .u64 (Nat.cast n2 : Int), sv2]] [rd sv 14 (l.map Sg.cells), ros (l.map Sg.rd), rd sv2 14 (l2.map Sg.cells), ros (l2.map Sg.rd)] [] (fun v L' => v = .bool (Si.same b c r n l b2 c2 r2 n2 l2) ∧ L' = []) := by
 refine Tri.enter (args := [.agg #[.int .i64 b, .int .i64 c, .int .i64 r, .int .u64 (Nat.cast n : Int), sv], .agg #[.int .i64 b2, .int .i64 c2, .int .i64 r2, .int .u64 (Nat.cast n2 : Int), sv2]]) (body := _) 38 func18 rfl ntmps18 rfl ?_
 intro w0
 refine J.seq <| J.region ?_
 refine O.one (Src.ro 0 rfl) (fun hV2 => ?_)
 refine O.l (Lo.box [.int .i64 b, .int .i64 c, .int .i64 r, .int .u64 (Nat.cast n : Int), sv] rfl rfl) rfl ?_
 rintro _ _ ⟨g1, rfl, rfl⟩
 refine O.one (Src.ro 2 rfl) (fun hV4 => ?_)
 refine O.l (Lo.box [.int .i64 b2, .int .i64 c2, .int .i64 r2, .int .u64 (Nat.cast n2 : Int), sv2] rfl rfl) rfl ?_
 rintro _ _ ⟨g3, rfl, rfl⟩
 refine O.a rfl rfl <| O.nil <| J.seq <| J.region <| O.p (Pu.fieldAddr (off' := 0) runUnderlying25 rfl sizeOf3 rfl rfl rfl) rfl <| O.q (Qt.ld rfl (Cel.var 1 rfl) (o := 0) (off := 0) rfl (Cut.one isAgg3 rfl)) rfl <| O.p (Pu.fieldAddr (off' := 0) runUnderlying25 rfl sizeOf3 rfl rfl rfl) rfl <| O.q (Qt.ld rfl (Cel.var 0 rfl) (o := 0) (off := 0) rfl (Cut.one isAgg3 rfl)) rfl <| O.p (Pu.eql rfl rfl) rfl <| O.m rfl rfl ?_
 refine by_bool (decide (b = b2)) (fun h5 => ?_) (fun h5 => ?_)
 ·
  have p6 := of_decide_eq_true h5
  refine O.gq (t := 10) rfl rfl h5 rfl (Pu.qt (Pu.fieldAddr (off' := 1) runUnderlying25 rfl sizeOf3 rfl rfl rfl)) rfl <| O.gq (t := 10) rfl rfl h5 rfl (Qt.ld rfl (Cel.var 1 rfl) (o := 0) (off := 1) rfl (Cut.one isAgg3 rfl)) rfl <| O.gq (t := 10) rfl rfl h5 rfl (Pu.qt (Pu.fieldAddr (off' := 1) runUnderlying25 rfl sizeOf3 rfl rfl rfl)) rfl <| O.gq (t := 10) rfl rfl h5 rfl (Qt.ld rfl (Cel.var 0 rfl) (o := 0) (off := 1) rfl (Cut.one isAgg3 rfl)) rfl <| O.gq (t := 10) rfl rfl h5 rfl (Pu.qt (Pu.eql rfl rfl)) rfl <| O.p (Pu.pickT rfl h5 rfl) rfl <| O.m rfl rfl ?_
  refine by_bool (decide (c = c2)) (fun h7 => ?_) (fun h7 => ?_)
  ·
   have p8 := of_decide_eq_true h7
   refine O.gq (t := 17) rfl rfl h7 rfl (Pu.qt (Pu.fieldAddr (off' := 2) runUnderlying25 rfl sizeOf3 rfl rfl rfl)) rfl <| O.gq (t := 17) rfl rfl h7 rfl (Qt.ld rfl (Cel.var 1 rfl) (o := 0) (off := 2) rfl (Cut.one isAgg3 rfl)) rfl <| O.gq (t := 17) rfl rfl h7 rfl (Pu.qt (Pu.fieldAddr (off' := 2) runUnderlying25 rfl sizeOf3 rfl rfl rfl)) rfl <| O.gq (t := 17) rfl rfl h7 rfl (Qt.ld rfl (Cel.var 0 rfl) (o := 0) (off := 2) rfl (Cut.one isAgg3 rfl)) rfl <| O.gq (t := 17) rfl rfl h7 rfl (Pu.qt (Pu.eql rfl rfl)) rfl <| O.p (Pu.pickT rfl h7 rfl) rfl <| O.m rfl rfl ?_
   refine by_bool (decide (r = r2)) (fun h9 => ?_) (fun h9 => ?_)
   ·
    have p10 := of_decide_eq_true h9
    refine O.gq (t := 24) rfl rfl h9 rfl (Pu.qt (Pu.fieldAddr (off' := 3) runUnderlying25 rfl sizeOf22 rfl rfl rfl)) rfl <| O.gq (t := 24) rfl rfl h9 rfl (Qt.ld rfl (Cel.var 1 rfl) (o := 0) (off := 3) rfl (Cut.one isAgg22 rfl)) rfl <| O.gq (t := 24) rfl rfl h9 rfl (Pu.qt (Pu.fieldAddr (off' := 3) runUnderlying25 rfl sizeOf22 rfl rfl rfl)) rfl <| O.gq (t := 24) rfl rfl h9 rfl (Qt.ld rfl (Cel.var 0 rfl) (o := 0) (off := 3) rfl (Cut.one isAgg22 rfl)) rfl <| O.gq (t := 24) rfl rfl h9 rfl (Pu.qt (Pu.eql rfl rfl)) rfl <| O.p (Pu.pickT rfl h9 rfl) rfl <| O.m rfl rfl ?_
    refine by_bool (decide ((Nat.cast n : Int) = (Nat.cast n2 : Int))) (fun h11 => ?_) (fun h11 => ?_)
    ·
     have p12 := of_decide_eq_true h11
     refine O.gq (t := 31) rfl rfl h11 rfl (Pu.qt (Pu.fieldAddr (off' := 4) runUnderlying25 rfl sizeOf23 rfl rfl rfl)) rfl <| O.gq (t := 31) rfl rfl h11 rfl (Qt.ld rfl (Cel.var 1 rfl) (o := 0) (off := 4) rfl (Cut.one isAgg23 rfl)) rfl <| O.gq (t := 31) rfl rfl h11 rfl (Pu.qt (Pu.fieldAddr (off' := 4) runUnderlying25 rfl sizeOf23 rfl rfl rfl)) rfl <| O.gq (t := 31) rfl rfl h11 rfl (Qt.ld rfl (Cel.var 0 rfl) (o := 0) (off := 4) rfl (Cut.one isAgg23 rfl)) rfl <| O.gl (t := 31) rfl rfl h11 rfl (Lo.call [sv, sv2, .func (.func 46) #[] #[]] (by exact call45) rfl (sl_EqualFunc sv l sv2 l2 hl hc hl2 hc2) [] [0, 1] (by decide) rfl [var g3 [.int .i64 b2, .int .i64 c2, .int .i64 r2, .int .u64 (Nat.cast n2 : Int), sv2] 25, var g1 [.int .i64 b, .int .i64 c, .int .i64 r, .int .u64 (Nat.cast n : Int), sv] 25] rfl (RoOk.ro 0 rfl [] rfl (RoOk.ro 1 rfl [] rfl (RoOk.ro 2 rfl [] rfl (RoOk.ro 3 rfl [] rfl RoOk.nil))))) rfl ?_
     rintro _ _ ⟨_, ⟨rfl, rfl⟩, rfl⟩
     refine O.p (Pu.pickT rfl h11 rfl) rfl <| O.a rfl rfl <| O.nil ?_
     exact J.ret (Fin.ret (rs := [.tmp 4]) rfl [_] ⟨rfl, trivial⟩ [] (by decide) [] rfl ⟨(by first | (have hn_ : n = n2 := (by omega); simp [vOf, Si.same, hn_, *, Bool.and_assoc]; done) | (have hn_ : ¬ n = n2 := (by omega); simp [vOf, Si.same, hn_, *, Bool.and_assoc]; done) | (simp [vOf, Si.same, *, Bool.and_assoc]; done)), rfl⟩)
    ·
     have p14 := of_decide_eq_false h11
     refine O.gskip (t := 31) rfl rfl (no_bool (by rw [h11]; decide)) rfl rfl <| O.gskip (t := 31) rfl rfl (no_bool (by rw [h11]; decide)) rfl rfl <| O.gskip (t := 31) rfl rfl (no_bool (by rw [h11]; decide)) rfl rfl <| O.gskip (t := 31) rfl rfl (no_bool (by rw [h11]; decide)) rfl rfl <| O.gskip (t := 31) rfl rfl (no_bool (by rw [h11]; decide)) rfl rfl <| O.p (Pu.pickF rfl h11 rfl) rfl <| O.a rfl rfl <| O.nil ?_
     exact J.ret (Fin.ret (rs := [.tmp 4]) rfl [_] ⟨rfl, trivial⟩ [] (by decide) [] rfl ⟨(by first | (have hn_ : n = n2 := (by omega); simp [vOf, Si.same, hn_, *, Bool.and_assoc]; done) | (have hn_ : ¬ n = n2 := (by omega); simp [vOf, Si.same, hn_, *, Bool.and_assoc]; done) | (simp [vOf, Si.same, *, Bool.and_assoc]; done)), rfl⟩)
   ·
    have p15 := of_decide_eq_false h9
    refine O.gskip (t := 24) rfl rfl (no_bool (by rw [h9]; decide)) rfl rfl <| O.gskip (t := 24) rfl rfl (no_bool (by rw [h9]; decide)) rfl rfl <| O.gskip (t := 24) rfl rfl (no_bool (by rw [h9]; decide)) rfl rfl <| O.gskip (t := 24) rfl rfl (no_bool (by rw [h9]; decide)) rfl rfl <| O.gskip (t := 24) rfl rfl (no_bool (by rw [h9]; decide)) rfl rfl <| O.p (Pu.pickF rfl h9 rfl) rfl <| O.m rfl rfl <| O.gskip (t := 31) rfl rfl (no_bool (by decide)) rfl rfl <| O.gskip (t := 31) rfl rfl (no_bool (by decide)) rfl rfl <| O.gskip (t := 31) rfl rfl (no_bool (by decide)) rfl rfl <| O.gskip (t := 31) rfl rfl (no_bool (by decide)) rfl rfl <| O.gskip (t := 31) rfl rfl (no_bool (by decide)) rfl rfl ?_
    refine O.p (Pu.pickF rfl rfl rfl) rfl <| O.a rfl rfl <| O.nil ?_
    exact J.ret (Fin.ret (rs := [.tmp 4]) rfl [_] ⟨rfl, trivial⟩ [] (by decide) [] rfl ⟨(by first | (have hn_ : n = n2 := (by omega); simp [vOf, Si.same, hn_, *, Bool.and_assoc]; done) | (have hn_ : ¬ n = n2 := (by omega); simp [vOf, Si.same, hn_, *, Bool.and_assoc]; done) | (simp [vOf, Si.same, *, Bool.and_assoc]; done)), rfl⟩)
  ·
   have p16 := of_decide_eq_false h7
   refine O.gskip (t := 17) rfl rfl (no_bool (by rw [h7]; decide)) rfl rfl <| O.gskip (t := 17) rfl rfl (no_bool (by rw [h7]; decide)) rfl rfl <| O.gskip (t := 17) rfl rfl (no_bool (by rw [h7]; decide)) rfl rfl <| O.gskip (t := 17) rfl rfl (no_bool (by rw [h7]; decide)) rfl rfl <| O.gskip (t := 17) rfl rfl (no_bool (by rw [h7]; decide)) rfl rfl <| O.p (Pu.pickF rfl h7 rfl) rfl <| O.m rfl rfl <| O.gskip (t := 24) rfl rfl (no_bool (by decide)) rfl rfl <| O.gskip (t := 24) rfl rfl (no_bool (by decide)) rfl rfl <| O.gskip (t := 24) rfl rfl (no_bool (by decide)) rfl rfl <| O.gskip (t := 24) rfl rfl (no_bool (by decide)) rfl rfl <| O.gskip (t := 24) rfl rfl (no_bool (by decide)) rfl rfl ?_
   refine O.p (Pu.pickF rfl rfl rfl) rfl <| O.m rfl rfl <| O.gskip (t := 31) rfl rfl (no_bool (by decide)) rfl rfl <| O.gskip (t := 31) rfl rfl (no_bool (by decide)) rfl rfl <| O.gskip (t := 31) rfl rfl (no_bool (by decide)) rfl rfl <| O.gskip (t := 31) rfl rfl (no_bool (by decide)) rfl rfl <| O.gskip (t := 31) rfl rfl (no_bool (by decide)) rfl rfl <| O.p (Pu.pickF rfl rfl rfl) rfl <| O.a rfl rfl <| O.nil ?_
   exact J.ret (Fin.ret (rs := [.tmp 4]) rfl [_] ⟨rfl, trivial⟩ [] (by decide) [] rfl ⟨(by first | (have hn_ : n = n2 := (by omega); simp [vOf, Si.same, hn_, *, Bool.and_assoc]; done) | (have hn_ : ¬ n = n2 := (by omega); simp [vOf, Si.same, hn_, *, Bool.and_assoc]; done) | (simp [vOf, Si.same, *, Bool.and_assoc]; done)), rfl⟩)
 ·
  have p17 := of_decide_eq_false h5
  refine O.gskip (t := 10) rfl rfl (no_bool (by rw [h5]; decide)) rfl rfl <| O.gskip (t := 10) rfl rfl (no_bool (by rw [h5]; decide)) rfl rfl <| O.gskip (t := 10) rfl rfl (no_bool (by rw [h5]; decide)) rfl rfl <| O.gskip (t := 10) rfl rfl (no_bool (by rw [h5]; decide)) rfl rfl <| O.gskip (t := 10) rfl rfl (no_bool (by rw [h5]; decide)) rfl rfl <| O.p (Pu.pickF rfl h5 rfl) rfl <| O.m rfl rfl <| O.gskip (t := 17) rfl rfl (no_bool (by decide)) rfl rfl <| O.gskip (t := 17) rfl rfl (no_bool (by decide)) rfl rfl <| O.gskip (t := 17) rfl rfl (no_bool (by decide)) rfl rfl <| O.gskip (t := 17) rfl rfl (no_bool (by decide)) rfl rfl <| O.gskip (t := 17) rfl rfl (no_bool (by decide)) rfl rfl ?_
  refine O.p (Pu.pickF rfl rfl rfl) rfl <| O.m rfl rfl <| O.gskip (t := 24) rfl rfl (no_bool (by decide)) rfl rfl <| O.gskip (t := 24) rfl rfl (no_bool (by decide)) rfl rfl <| O.gskip (t := 24) rfl rfl (no_bool (by decide)) rfl rfl <| O.gskip (t := 24) rfl rfl (no_bool (by decide)) rfl rfl <| O.gskip (t := 24) rfl rfl (no_bool (by decide)) rfl rfl <| O.p (Pu.pickF rfl rfl rfl) rfl <| O.m rfl rfl <| O.gskip (t := 31) rfl rfl (no_bool (by decide)) rfl rfl <| O.gskip (t := 31) rfl rfl (no_bool (by decide)) rfl rfl <| O.gskip (t := 31) rfl rfl (no_bool (by decide)) rfl rfl ?_
  refine O.gskip (t := 31) rfl rfl (no_bool (by decide)) rfl rfl <| O.gskip (t := 31) rfl rfl (no_bool (by decide)) rfl rfl <| O.p (Pu.pickF rfl rfl rfl) rfl <| O.a rfl rfl <| O.nil ?_
  exact J.ret (Fin.ret (rs := [.tmp 4]) rfl [_] ⟨rfl, trivial⟩ [] (by decide) [] rfl ⟨(by first | (have hn_ : n = n2 := (by omega); simp [vOf, Si.same, hn_, *, Bool.and_assoc]; done) | (have hn_ : ¬ n = n2 := (by omega); simp [vOf, Si.same, hn_, *, Bool.and_assoc]; done) | (simp [vOf, Si.same, *, Bool.and_assoc]; done)), rfl⟩)

set_option maxRecDepth 100000 in
set_option maxHeartbeats 1000000 in
theorem r30_Same (b c r : Int) (n : Nat) (sv : Value) (l : List Sg) (b2 c2 r2 : Int) (n2 : Nat) (sv2 : Value) (l2 : List Sg) (hl : l.length ≤ 30000) (hc : ∀ s ∈ l, s.cl.length ≤ 30000) (hl2 : l2.length ≤ 30000) (hc2 : ∀ s ∈ l2, s.cl.length ≤ 30000) : Tri prog 10 #[.agg #[.int .i64 b, .int .i64 c, .int .i64 r, .int .u64 (Nat.cast n : Int), sv], .agg #[.int .i64 b2, .int .i64 c2, .int .i64 r2, .int .u64 (Nat.cast n2 : Int), sv2]] [rd sv 14 (l.map Sg.cells), ros (l.map Sg.rd), rd sv2 14 (l2.map Sg.cells), ros (l2.map Sg.rd)] [] (fun v L' => v = .bool (Si.same b c r n l b2 c2 r2 n2 l2) ∧ L' = []) := by
 refine Tri.enter (args := [.agg #[.int .i64 b, .int .i64 c, .int .i64 r, .int .u64 (Nat.cast n : Int), sv], .agg #[.int .i64 b2, .int .i64 c2, .int .i64 r2, .int .u64 (Nat.cast n2 : Int), sv2]]) (body := _) 60 func10 rfl ntmps10 rfl ?_
 intro w0
 refine J.seq <| J.region ?_
 refine O.one (Src.ro 0 rfl) (fun hV2 => ?_)
 refine O.l (Lo.box [.int .i64 b, .int .i64 c, .int .i64 r, .int .u64 (Nat.cast n : Int), sv] rfl rfl) rfl ?_
 rintro _ _ ⟨g1, rfl, rfl⟩
 refine O.one (Src.ro 2 rfl) (fun hV4 => ?_)
 refine O.l (Lo.box [.int .i64 b2, .int .i64 c2, .int .i64 r2, .int .u64 (Nat.cast n2 : Int), sv2] rfl rfl) rfl ?_
 rintro _ _ ⟨g3, rfl, rfl⟩
 refine O.a rfl rfl <| O.nil <| J.seq <| J.seq <| J.region <| O.p (Pu.fieldAddr (off' := 0) runUnderlying25 rfl sizeOf3 rfl rfl rfl) rfl <| O.q (Qt.ld rfl (Cel.var 1 rfl) (o := 0) (off := 0) rfl (Cut.one isAgg3 rfl)) rfl <| O.p (Pu.fieldAddr (off' := 0) runUnderlying25 rfl sizeOf3 rfl rfl rfl) rfl <| O.q (Qt.ld rfl (Cel.var 0 rfl) (o := 0) (off := 0) rfl (Cut.one isAgg3 rfl)) rfl <| O.p (Pu.neq rfl rfl) rfl <| O.m rfl rfl ?_
 refine by_bool (decide (b ≠ b2)) (fun h5 => ?_) (fun h5 => ?_)
 ·
  have p6 := of_decide_eq_true h5
  refine O.gskip (t := 11) rfl rfl (no_bool (by rw [h5]; decide)) rfl rfl <| O.gskip (t := 11) rfl rfl (no_bool (by rw [h5]; decide)) rfl rfl <| O.gskip (t := 11) rfl rfl (no_bool (by rw [h5]; decide)) rfl rfl <| O.gskip (t := 11) rfl rfl (no_bool (by rw [h5]; decide)) rfl rfl <| O.gskip (t := 11) rfl rfl (no_bool (by rw [h5]; decide)) rfl rfl <| O.p (Pu.pickT rfl h5 rfl) rfl <| O.m rfl rfl <| O.gskip (t := 18) rfl rfl (no_bool (by decide)) rfl rfl <| O.gskip (t := 18) rfl rfl (no_bool (by decide)) rfl rfl <| O.gskip (t := 18) rfl rfl (no_bool (by decide)) rfl rfl <| O.gskip (t := 18) rfl rfl (no_bool (by decide)) rfl rfl <| O.gskip (t := 18) rfl rfl (no_bool (by decide)) rfl rfl ?_
  refine O.p (Pu.pickT rfl rfl rfl) rfl <| O.m rfl rfl <| O.gskip (t := 25) rfl rfl (no_bool (by decide)) rfl rfl <| O.gskip (t := 25) rfl rfl (no_bool (by decide)) rfl rfl <| O.gskip (t := 25) rfl rfl (no_bool (by decide)) rfl rfl <| O.gskip (t := 25) rfl rfl (no_bool (by decide)) rfl rfl <| O.gskip (t := 25) rfl rfl (no_bool (by decide)) rfl rfl <| O.p (Pu.pickT rfl rfl rfl) rfl <| O.m rfl rfl <| O.gskip (t := 32) rfl rfl (no_bool (by decide)) rfl rfl <| O.gskip (t := 32) rfl rfl (no_bool (by decide)) rfl rfl <| O.gskip (t := 32) rfl rfl (no_bool (by decide)) rfl rfl ?_
  refine O.gskip (t := 32) rfl rfl (no_bool (by decide)) rfl rfl <| O.gskip (t := 32) rfl rfl (no_bool (by decide)) rfl rfl <| O.gskip (t := 32) rfl rfl (no_bool (by decide)) rfl rfl <| O.gskip (t := 32) rfl rfl (no_bool (by decide)) rfl rfl <| O.p (Pu.pickT rfl rfl rfl) rfl <| O.nil <| J.condT rfl rfl <| J.seq <| J.region <| O.a rfl rfl <| O.nil ?_
  exact J.ret (Fin.ret (rs := [.tmp 4]) rfl [_] ⟨rfl, trivial⟩ [] (by decide) [] rfl ⟨(by rw [Si.same_no (by omega)]; rfl), rfl⟩)
 ·
  have p7 := of_decide_eq_false h5
  refine O.gq (t := 11) rfl rfl h5 rfl (Pu.qt (Pu.fieldAddr (off' := 1) runUnderlying25 rfl sizeOf3 rfl rfl rfl)) rfl <| O.gq (t := 11) rfl rfl h5 rfl (Qt.ld rfl (Cel.var 1 rfl) (o := 0) (off := 1) rfl (Cut.one isAgg3 rfl)) rfl <| O.gq (t := 11) rfl rfl h5 rfl (Pu.qt (Pu.fieldAddr (off' := 1) runUnderlying25 rfl sizeOf3 rfl rfl rfl)) rfl <| O.gq (t := 11) rfl rfl h5 rfl (Qt.ld rfl (Cel.var 0 rfl) (o := 0) (off := 1) rfl (Cut.one isAgg3 rfl)) rfl <| O.gq (t := 11) rfl rfl h5 rfl (Pu.qt (Pu.neq rfl rfl)) rfl <| O.p (Pu.pickF rfl h5 rfl) rfl <| O.m rfl rfl ?_
  refine by_bool (decide (c ≠ c2)) (fun h8 => ?_) (fun h8 => ?_)
  ·
   have p9 := of_decide_eq_true h8
   refine O.gskip (t := 18) rfl rfl (no_bool (by rw [h8]; decide)) rfl rfl <| O.gskip (t := 18) rfl rfl (no_bool (by rw [h8]; decide)) rfl rfl <| O.gskip (t := 18) rfl rfl (no_bool (by rw [h8]; decide)) rfl rfl <| O.gskip (t := 18) rfl rfl (no_bool (by rw [h8]; decide)) rfl rfl <| O.gskip (t := 18) rfl rfl (no_bool (by rw [h8]; decide)) rfl rfl <| O.p (Pu.pickT rfl h8 rfl) rfl <| O.m rfl rfl <| O.gskip (t := 25) rfl rfl (no_bool (by decide)) rfl rfl <| O.gskip (t := 25) rfl rfl (no_bool (by decide)) rfl rfl <| O.gskip (t := 25) rfl rfl (no_bool (by decide)) rfl rfl <| O.gskip (t := 25) rfl rfl (no_bool (by decide)) rfl rfl <| O.gskip (t := 25) rfl rfl (no_bool (by decide)) rfl rfl ?_
   refine O.p (Pu.pickT rfl rfl rfl) rfl <| O.m rfl rfl <| O.gskip (t := 32) rfl rfl (no_bool (by decide)) rfl rfl <| O.gskip (t := 32) rfl rfl (no_bool (by decide)) rfl rfl <| O.gskip (t := 32) rfl rfl (no_bool (by decide)) rfl rfl <| O.gskip (t := 32) rfl rfl (no_bool (by decide)) rfl rfl <| O.gskip (t := 32) rfl rfl (no_bool (by decide)) rfl rfl <| O.gskip (t := 32) rfl rfl (no_bool (by decide)) rfl rfl <| O.gskip (t := 32) rfl rfl (no_bool (by decide)) rfl rfl <| O.p (Pu.pickT rfl rfl rfl) rfl <| O.nil <| J.condT rfl rfl ?_
   refine J.seq <| J.region <| O.a rfl rfl <| O.nil ?_
   exact J.ret (Fin.ret (rs := [.tmp 4]) rfl [_] ⟨rfl, trivial⟩ [] (by decide) [] rfl ⟨(by rw [Si.same_no (by omega)]; rfl), rfl⟩)
  ·
   have p10 := of_decide_eq_false h8
   refine O.gq (t := 18) rfl rfl h8 rfl (Pu.qt (Pu.fieldAddr (off' := 2) runUnderlying25 rfl sizeOf3 rfl rfl rfl)) rfl <| O.gq (t := 18) rfl rfl h8 rfl (Qt.ld rfl (Cel.var 1 rfl) (o := 0) (off := 2) rfl (Cut.one isAgg3 rfl)) rfl <| O.gq (t := 18) rfl rfl h8 rfl (Pu.qt (Pu.fieldAddr (off' := 2) runUnderlying25 rfl sizeOf3 rfl rfl rfl)) rfl <| O.gq (t := 18) rfl rfl h8 rfl (Qt.ld rfl (Cel.var 0 rfl) (o := 0) (off := 2) rfl (Cut.one isAgg3 rfl)) rfl <| O.gq (t := 18) rfl rfl h8 rfl (Pu.qt (Pu.neq rfl rfl)) rfl <| O.p (Pu.pickF rfl h8 rfl) rfl <| O.m rfl rfl ?_
   refine by_bool (decide (r ≠ r2)) (fun h11 => ?_) (fun h11 => ?_)
   ·
    have p12 := of_decide_eq_true h11
    refine O.gskip (t := 25) rfl rfl (no_bool (by rw [h11]; decide)) rfl rfl <| O.gskip (t := 25) rfl rfl (no_bool (by rw [h11]; decide)) rfl rfl <| O.gskip (t := 25) rfl rfl (no_bool (by rw [h11]; decide)) rfl rfl <| O.gskip (t := 25) rfl rfl (no_bool (by rw [h11]; decide)) rfl rfl <| O.gskip (t := 25) rfl rfl (no_bool (by rw [h11]; decide)) rfl rfl <| O.p (Pu.pickT rfl h11 rfl) rfl <| O.m rfl rfl <| O.gskip (t := 32) rfl rfl (no_bool (by decide)) rfl rfl <| O.gskip (t := 32) rfl rfl (no_bool (by decide)) rfl rfl <| O.gskip (t := 32) rfl rfl (no_bool (by decide)) rfl rfl <| O.gskip (t := 32) rfl rfl (no_bool (by decide)) rfl rfl <| O.gskip (t := 32) rfl rfl (no_bool (by decide)) rfl rfl ?_
    refine O.gskip (t := 32) rfl rfl (no_bool (by decide)) rfl rfl <| O.gskip (t := 32) rfl rfl (no_bool (by decide)) rfl rfl <| O.p (Pu.pickT rfl rfl rfl) rfl <| O.nil <| J.condT rfl rfl <| J.seq <| J.region <| O.a rfl rfl <| O.nil ?_
    exact J.ret (Fin.ret (rs := [.tmp 4]) rfl [_] ⟨rfl, trivial⟩ [] (by decide) [] rfl ⟨(by rw [Si.same_no (by omega)]; rfl), rfl⟩)
   ·
    have p13 := of_decide_eq_false h11
    refine O.gq (t := 25) rfl rfl h11 rfl (Pu.qt (Pu.fieldAddr (off' := 3) runUnderlying25 rfl sizeOf22 rfl rfl rfl)) rfl <| O.gq (t := 25) rfl rfl h11 rfl (Qt.ld rfl (Cel.var 1 rfl) (o := 0) (off := 3) rfl (Cut.one isAgg22 rfl)) rfl <| O.gq (t := 25) rfl rfl h11 rfl (Pu.qt (Pu.fieldAddr (off' := 3) runUnderlying25 rfl sizeOf22 rfl rfl rfl)) rfl <| O.gq (t := 25) rfl rfl h11 rfl (Qt.ld rfl (Cel.var 0 rfl) (o := 0) (off := 3) rfl (Cut.one isAgg22 rfl)) rfl <| O.gq (t := 25) rfl rfl h11 rfl (Pu.qt (Pu.neq rfl rfl)) rfl <| O.p (Pu.pickF rfl h11 rfl) rfl <| O.m rfl rfl ?_
    refine by_bool (decide ((Nat.cast n : Int) ≠ (Nat.cast n2 : Int))) (fun h14 => ?_) (fun h14 => ?_)
    ·
     have p15 := of_decide_eq_true h14
     refine O.gskip (t := 32) rfl rfl (no_bool (by rw [h14]; decide)) rfl rfl <| O.gskip (t := 32) rfl rfl (no_bool (by rw [h14]; decide)) rfl rfl <| O.gskip (t := 32) rfl rfl (no_bool (by rw [h14]; decide)) rfl rfl <| O.gskip (t := 32) rfl rfl (no_bool (by rw [h14]; decide)) rfl rfl <| O.gskip (t := 32) rfl rfl (no_bool (by rw [h14]; decide)) rfl rfl <| O.gskip (t := 32) rfl rfl (no_bool (by rw [h14]; decide)) rfl rfl <| O.gskip (t := 32) rfl rfl (no_bool (by rw [h14]; decide)) rfl rfl <| O.p (Pu.pickT rfl h14 rfl) rfl <| O.nil <| J.condT rfl rfl <| J.seq <| J.region ?_
     refine O.a rfl rfl <| O.nil ?_
     exact J.ret (Fin.ret (rs := [.tmp 4]) rfl [_] ⟨rfl, trivial⟩ [] (by decide) [] rfl ⟨(by rw [Si.same_no (by omega)]; rfl), rfl⟩)
    ·
     have p16 := of_decide_eq_false h14
     refine O.gq (t := 32) rfl rfl h14 rfl (Pu.qt (Pu.fieldAddr (off' := 4) runUnderlying25 rfl sizeOf23 rfl rfl rfl)) rfl <| O.gq (t := 32) rfl rfl h14 rfl (Qt.ld rfl (Cel.var 1 rfl) (o := 0) (off := 4) rfl (Cut.one isAgg23 rfl)) rfl <| O.gq (t := 32) rfl rfl h14 rfl (Qt.lenM runUnderlying23 rfl (Src.ro 0 rfl)) rfl <| O.gq (t := 32) rfl rfl h14 rfl (Pu.qt (Pu.fieldAddr (off' := 4) runUnderlying25 rfl sizeOf23 rfl rfl rfl)) rfl <| O.gq (t := 32) rfl rfl h14 rfl (Qt.ld rfl (Cel.var 0 rfl) (o := 0) (off := 4) rfl (Cut.one isAgg23 rfl)) rfl <| O.gq (t := 32) rfl rfl h14 rfl (Qt.lenM runUnderlying23 rfl (Src.ro 2 rfl)) rfl <| O.gq (t := 32) rfl rfl h14 rfl (Pu.qt (Pu.neq rfl rfl)) rfl <| O.p (Pu.pickF rfl h14 rfl) rfl <| O.nil ?_
     refine J.cond rfl (fun h17 => ?_) (fun h17 => ?_)
     ·
      have p18 := of_decide_eq_true h17
      refine J.seq <| J.region <| O.a rfl rfl <| O.nil ?_
      exact J.ret (Fin.ret (rs := [.tmp 4]) rfl [_] ⟨rfl, trivial⟩ [] (by decide) [] rfl ⟨(by rw [Si.same_no (by omega)]; rfl), rfl⟩)
     ·
      have p19 := of_decide_eq_false h17
      refine J.skip <| J.seq <| J.seq <| J.region <| O.a rfl rfl <| O.nil <| J.block <| J.loop (X := Nat) (fun ξ => ξ ≤ l.length ∧ l.length = l2.length ∧ Si.sameN l l2 ξ = true) (fun ξ => [(2, .pointer (some ⟨g1, 0, none⟩)), (3, .pointer (some ⟨g3, 0, none⟩)), (5, .int .i64 (ξ : Int))]) (fun ξ => [var g3 [.int .i64 b2, .int .i64 c2, .int .i64 r2, .int .u64 (Nat.cast n2 : Int), sv2] 25, var g1 [.int .i64 b, .int .i64 c, .int .i64 r, .int .u64 (Nat.cast n : Int), sv] 25]) (fun ξ => l.length - ξ) 0 (show 0 ≤ l.length ∧ l.length = l2.length ∧ Si.sameN l l2 0 = true from ⟨by omega, by omega, Si.sameN_zero⟩) ⟨rfl, rfl, (congrArg (fun z => some (Value.int .i64 z)) (by first | rfl | omega : (0 : Int) = (0 : Int))), trivial⟩ [0, 1] (by decide) rfl ?_
      rintro k hq20
      obtain ⟨hk, hle, hN⟩ : k ≤ l.length ∧ l.length = l2.length ∧ Si.sameN l l2 k = true := hq20
      show J _ _ [(2, .pointer (some ⟨g1, 0, none⟩)), (3, .pointer (some ⟨g3, 0, none⟩)), (5, .int .i64 (k : Int))] [var g3 [.int .i64 b2, .int .i64 c2, .int .i64 r2, .int .u64 (Nat.cast n2 : Int), sv2] 25, var g1 [.int .i64 b, .int .i64 c, .int .i64 r, .int .u64 (Nat.cast n : Int), sv] 25]
      refine J.seq <| J.seq <| J.region <| O.m rfl rfl <| O.p (Pu.fieldAddr (off' := 4) runUnderlying25 rfl sizeOf23 rfl rfl rfl) rfl <| O.q (Qt.ld rfl (Cel.var 1 rfl) (o := 0) (off := 4) rfl (Cut.one isAgg23 rfl)) rfl <| O.q (Qt.lenM runUnderlying23 rfl (Src.ro 0 rfl)) rfl <| O.p (Pu.lss rfl rfl) rfl <| O.nil ?_
      refine J.cond rfl (fun h21 => ?_) (fun h21 => ?_)
      ·
       have p22 := of_decide_eq_true h21
       refine J.skip <| J.seq <| J.block <| J.seq ?_
       obtain ⟨e23, he23⟩ : ∃ x_, l[k]? = some x_ := ⟨_, List.getElem?_eq_getElem (by omega)⟩
       refine J.ros 1 rfl (A := rd e23.cv 4 (e23.cl.map Cl.cells)) (List.mem_map.2 ⟨e23, List.mem_of_getElem? he23, rfl⟩) ?_
       have hhc_ := hc _ (List.mem_of_getElem? he23)
       obtain ⟨e24, he24⟩ : ∃ x_, l2[k]? = some x_ := ⟨_, List.getElem?_eq_getElem (by omega)⟩
       refine J.ros 3 rfl (A := rd e24.cv 4 (e24.cl.map Cl.cells)) (List.mem_map.2 ⟨e24, List.mem_of_getElem? he24, rfl⟩) ?_
       have hhc2_ := hc2 _ (List.mem_of_getElem? he24)
       refine J.drawTail 10 Tryz.mixed (by kernel_rfl) <| S.p (Pu.fieldAddr (off' := 4) runUnderlying25 rfl sizeOf23 rfl rfl rfl) rfl <| S.q (Qt.ld rfl (Cel.var 1 rfl) (o := 0) (off := 4) rfl (Cut.one isAgg23 rfl)) rfl <| S.m rfl rfl <| S.q (Qt.idxM runUnderlying23 sizeOf47 rfl (Src.ro 0 rfl) rfl (by omega) (by omega)) rfl <| S.q (Qt.ld rfl (Cel.eltM (Src.ro 0 rfl) he23) (o := (voff sv + k * 14)) (off := 0) (by omega) (Cut.agg [.int .i64 e23.x0, .int .i64 e23.x1, .int .i64 e23.x2, .int .i64 e23.x3, .int .i64 e23.x4, .int .i64 e23.x5, .int .i64 e23.x6, .int .i64 e23.x7, .int .i64 e23.x8, .int .i64 e23.x9, .int .i64 e23.x10, .int .i64 e23.x11, .int .i64 e23.x12, e23.cv] isAgg47 sizeOf47 rfl rfl)) rfl <| S.p (Pu.fieldAddr (off' := 4) runUnderlying25 rfl sizeOf23 rfl rfl rfl) rfl <| S.q (Qt.ld rfl (Cel.var 0 rfl) (o := 0) (off := 4) rfl (Cut.one isAgg23 rfl)) rfl <| S.m rfl rfl <| S.q (Qt.idxM runUnderlying23 sizeOf47 rfl (Src.ro 2 rfl) rfl (by omega) (by omega)) rfl <| S.q (Qt.ld rfl (Cel.eltM (Src.ro 2 rfl) he24) (o := (voff sv2 + k * 14)) (off := 0) (by omega) (Cut.agg [.int .i64 e24.x0, .int .i64 e24.x1, .int .i64 e24.x2, .int .i64 e24.x3, .int .i64 e24.x4, .int .i64 e24.x5, .int .i64 e24.x6, .int .i64 e24.x7, .int .i64 e24.x8, .int .i64 e24.x9, .int .i64 e24.x10, .int .i64 e24.x11, .int .i64 e24.x12, e24.cv] isAgg47 sizeOf47 rfl rfl)) rfl <| S.endO ?_
       refine O.l (Lo.call [.agg #[.int .i64 e23.x0, .int .i64 e23.x1, .int .i64 e23.x2, .int .i64 e23.x3, .int .i64 e23.x4, .int .i64 e23.x5, .int .i64 e23.x6, .int .i64 e23.x7, .int .i64 e23.x8, .int .i64 e23.x9, .int .i64 e23.x10, .int .i64 e23.x11, .int .i64 e23.x12, e23.cv], .agg #[.int .i64 e24.x0, .int .i64 e24.x1, .int .i64 e24.x2, .int .i64 e24.x3, .int .i64 e24.x4, .int .i64 e24.x5, .int .i64 e24.x6, .int .i64 e24.x7, .int .i64 e24.x8, .int .i64 e24.x9, .int .i64 e24.x10, .int .i64 e24.x11, .int .i64 e24.x12, e24.cv]] (by exact call22) rfl (r28_Same e23.x0 e23.x1 e23.x2 e23.x3 e23.x4 e23.x5 e23.x6 e23.x7 e23.x8 e23.x9 e23.x10 e23.x11 e23.x12 e24.x0 e24.x1 e24.x2 e24.x3 e24.x4 e24.x5 e24.x6 e24.x7 e24.x8 e24.x9 e24.x10 e24.x11 e24.x12 e23.cv e24.cv e23.cl e24.cl (by omega) (by omega)) [] [0, 1] (by decide) rfl [var g3 [.int .i64 b2, .int .i64 c2, .int .i64 r2, .int .u64 (Nat.cast n2 : Int), sv2] 25, var g1 [.int .i64 b, .int .i64 c, .int .i64 r, .int .u64 (Nat.cast n : Int), sv] 25] rfl (RoOk.ro 4 rfl [] rfl (RoOk.ro 5 rfl [] rfl RoOk.nil))) rfl ?_
       rintro _ _ ⟨_, ⟨rfl, rfl⟩, rfl⟩
       refine O.p (Pu.not rfl) rfl <| O.nil ?_
       refine J.cond rfl (fun h26 => ?_) (fun h26 => ?_)
       ·
        have h27 : (Cf.sameI [e23.x0, e23.x1, e23.x2, e23.x3, e23.x4, e23.x5, e23.x6, e23.x7, e23.x8, e23.x9, e23.x10, e23.x11, e23.x12] [e24.x0, e24.x1, e24.x2, e24.x3, e24.x4, e24.x5, e24.x6, e24.x7, e24.x8, e24.x9, e24.x10, e24.x11, e24.x12] && Cf.sameC e23.cl e24.cl) = false := not_flip h26
        refine J.seq <| J.region <| O.a rfl rfl <| O.nil ?_
        exact J.ret (Fin.ret (rs := [.tmp 4]) rfl [_] ⟨rfl, trivial⟩ [] (by decide) [] rfl ⟨(by rw [Si.same_bad he23 he24 (show Si.sameS e23 e24 = false from ‹_›)]; rfl), rfl⟩)
       ·
        have h28 : (Cf.sameI [e23.x0, e23.x1, e23.x2, e23.x3, e23.x4, e23.x5, e23.x6, e23.x7, e23.x8, e23.x9, e23.x10, e23.x11, e23.x12] [e24.x0, e24.x1, e24.x2, e24.x3, e24.x4, e24.x5, e24.x6, e24.x7, e24.x8, e24.x9, e24.x10, e24.x11, e24.x12] && Cf.sameC e23.cl e24.cl) = true := not_flip h26
        refine J.skip <| J.blk <| J.region <| O.m rfl rfl <| O.p (Pu.add' rfl rfl (by first | omega | (simp only [List.length_append, List.length_cons, List.length_nil, List.length_set]; omega))) rfl <| O.a rfl rfl <| O.nil ?_
        exact J.lp (k + 1) (show (k + 1) ≤ l.length ∧ l.length = l2.length ∧ Si.sameN l l2 (k + 1) = true from ⟨by omega, hle, Si.sameN_next hN he23 he24 (show Si.sameS e23 e24 = true from ‹_›)⟩) (show l.length - (k + 1) < l.length - k from (by omega)) ⟨rfl, rfl, (congrArg (fun z => some (Value.int .i64 z)) (by first | rfl | omega : ((k : Int) + 1 : Int) = ((k + 1) : Int))), trivial⟩ [0, 1] (by decide) rfl
      ·
       have p29 := of_decide_eq_false h21
       refine J.exit _ rfl <| J.seq <| J.region <| O.a rfl rfl <| O.nil ?_
       exact J.ret (Fin.ret (rs := [.tmp 4]) rfl [_] ⟨rfl, trivial⟩ [] (by decide) [] rfl ⟨(by rw [Si.same_all ⟨by omega, by omega, by omega, by omega, hle⟩ hN (by omega) (by omega)]; rfl), rfl⟩)

end Go.Proofs.YtnhfgnnpbipcnaaGreatDoor
