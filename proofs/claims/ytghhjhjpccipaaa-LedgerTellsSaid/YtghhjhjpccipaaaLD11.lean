/-
  Walks, printed by a program of mine (lk.py): each function meets its contract.
-/
import Derived.KernelRfl
import Derived.Test.YtghhjhjpccipaaaLD10
import Derived.Test.YtghhjhjpccipaaaLedger2
import Derived.Test.YtghhjhjpccipaaaLk13
namespace Go.Proofs.Ytghhjhjpccipaaa
open Go Go.LK
set_option linter.unusedSimpArgs false

set_option maxRecDepth 100000 in
theorem bw_100 (gv : Nat) (lv : Value) (l : List Ft) (hl : l.length ≤ 1000000000000) : ItC Try.prog 100 #[.pointer (some ⟨gv, 0, none⟩)] [var gv [lv] 55, rd lv 8 (l.map Ft.cells)] (bwXs (fun x : Ft => .agg #[.int .i64 x.s, .int .i64 x.id, .int .i64 x.state, .int .i64 x.level, .int .i64 x.code, .int .i64 x.came, .int .i64 x.began, .int .i64 x.ended]) l) := by
  refine ItC.enter (lb := [.pointer (some ⟨gv, 0, none⟩)]) (body := _) 19 Try.func100 rfl Try.ntmps100 rfl (by rfl) ?_
  intro y m J Jx R0 W hmem hy h0 hR
  refine JE.seq ?_
  refine JE.region ?_
  refine OE.q (fun A hA => ⟨hmem _ _ h0 A hA, fun k _ hk => by cases hk⟩) (Qt.ld rfl (Cel.roVar 0 rfl) (o := 0) (off := 0) rfl (Cut.one Try.isAgg55 rfl)) rfl ?_
  refine OE.q (fun A hA => ⟨hmem _ _ h0 A hA, fun k _ hk => by cases hk⟩) (Qt.lenM Try.runUnderlying55 rfl (Src.ro 1 rfl)) rfl ?_
  refine OE.p (Pu.sub' rfl rfl (by omega)) rfl ?_
  refine OE.p (Pu.assign rfl) rfl ?_
  refine OE.nil ?_
  refine JE.block ?_
  refine JE.loop (X := Nat) (fun k W => k ≤ l.length ∧ J k W) (fun k => [(0, .func (.yield y) #[] #[]), (1, .pointer (some ⟨gv, 0, none⟩)), (3, .int .i64 ((l.length : Int) - 1 - k))]) (fun k => l.length - k) 0 ⟨Nat.zero_le _, h0⟩ ⟨rfl, rfl, congrArg (fun z => some (Value.int .i64 z)) (by omega), trivial⟩ ?_
  rintro k W1 ⟨hk, hj⟩
  show JE _ _ _ [(0, .func (.yield y) #[] #[]), (1, .pointer (some ⟨gv, 0, none⟩)), (3, .int .i64 ((l.length : Int) - 1 - k))] _
  refine JE.seq ?_
  refine JE.seq ?_
  refine JE.region ?_
  refine OE.p (Pu.move rfl) rfl ?_
  refine OE.p (Pu.geq rfl rfl) rfl ?_
  refine OE.nil ?_
  refine JE.cond rfl (fun h => ?_) (fun h => ?_)
  ·
    have p := of_decide_eq_true h
    refine JE.skip ?_
    refine JE.seq ?_
    refine JE.block ?_
    refine JE.seq ?_
    refine JE.region ?_
    refine OE.p (Pu.move rfl) rfl ?_
    refine OE.p (Pu.move rfl) rfl ?_
    refine OE.q (fun A hA => ⟨hmem _ _ hj A hA, fun k _ hk => by cases hk⟩) (Qt.ld rfl (Cel.roVar 0 rfl) (o := 0) (off := 0) rfl (Cut.one Try.isAgg55 rfl)) rfl ?_
    refine OE.p (Pu.move rfl) rfl ?_
    obtain ⟨e, he⟩ : ∃ x_, l[(((l.length : Int) - 1 - k)).toNat]? = some x_ := ⟨_, List.getElem?_eq_getElem (by omega)⟩
    refine OE.q (fun A hA => ⟨hmem _ _ hj A hA, fun k _ hk => by cases hk⟩) (Qt.idxM Try.runUnderlying55 Try.sizeOf61 rfl (Src.ro 1 rfl) rfl (by omega) (by omega)) rfl ?_
    refine OE.q (fun A hA => ⟨hmem _ _ hj A hA, fun k _ hk => by cases hk⟩) (Qt.ld rfl (Cel.eltM (Src.ro 1 rfl) he) (o := (voff lv + (((l.length : Int) - 1 - k)).toNat * 8)) (off := 0) (by omega) (Cut.agg [.int .i64 e.s, .int .i64 e.id, .int .i64 e.state, .int .i64 e.level, .int .i64 e.code, .int .i64 e.came, .int .i64 e.began, .int .i64 e.ended] Try.isAgg61 Try.sizeOf61 rfl rfl)) rfl ?_
    have hx : (bwXs (fun x : Ft => .agg #[.int .i64 x.s, .int .i64 x.id, .int .i64 x.state, .int .i64 x.level, .int .i64 x.code, .int .i64 x.came, .int .i64 x.began, .int .i64 x.ended]) l)[k]? = some [.int .i64 ((l.length : Int) - 1 - k), .agg #[.int .i64 e.s, .int .i64 e.id, .int .i64 e.state, .int .i64 e.level, .int .i64 e.code, .int .i64 e.came, .int .i64 e.began, .int .i64 e.ended]] := bwXs_at (f := fun x : Ft => .agg #[.int .i64 x.s, .int .i64 x.id, .int .i64 x.state, .int .i64 x.level, .int .i64 x.code, .int .i64 x.came, .int .i64 x.began, .int .i64 x.ended]) (by omega) (by rw [← he]; congr 1; omega)
    refine OE.yield (K := fun b W' => match b with | true => J (k + 1) W' | false => Jx W') (vs := [.int .i64 ((l.length : Int) - 1 - k), .agg #[.int .i64 e.s, .int .i64 e.id, .int .i64 e.state, .int .i64 e.level, .int .i64 e.code, .int .i64 e.came, .int .i64 e.began, .int .i64 e.ended]]) rfl rfl rfl rfl (hy k _ _ hj hx) rfl ?_
    rintro b W2 hK
    cases b
    ·
      refine OE.p (Pu.not rfl) rfl ?_
      refine OE.nil ?_
      refine JE.condT rfl rfl ?_
      exact JE.ret (fun a ha => hR _ _ _ (.inr rfl) ha.defers (.inr hK))
    ·
      refine OE.p (Pu.not rfl) rfl ?_
      refine OE.nil ?_
      refine JE.condF rfl rfl ?_
      refine JE.skip ?_
      refine JE.blk ?_
      refine JE.region ?_
      refine OE.p (Pu.move rfl) rfl ?_
      refine OE.p (Pu.sub' rfl rfl (by omega)) rfl ?_
      refine OE.p (Pu.assign rfl) rfl ?_
      refine OE.nil ?_
      exact JE.again (k + 1) ⟨by omega, hK⟩ (show l.length - (k + 1) < l.length - k from (by omega)) ⟨rfl, rfl, congrArg (fun z => some (Value.int .i64 z)) (by omega), trivial⟩
  ·
    have p := of_decide_eq_false h
    refine JE.exit _ rfl ?_
    refine JE.done (fun a ha => hR _ _ _ (.inl rfl) ha.defers (.inl ?_))
    rw [bwXs_length, show l.length = k from (by omega)]
    exact hj

set_option maxRecDepth 100000 in
theorem ld_back (lv : Value) (l : List Ft) : Tri Try.prog 73 #[lv] [rd lv 8 (l.map Ft.cells)] [] (fun v L' => ∃ g, v = .func (.func 100) #[] #[.pointer (some ⟨g, 0, none⟩)] ∧ L' = [var g [lv] 55]) := by
  refine Tri.enter (args := [lv]) (body := _) 4 Try.func73 rfl Try.ntmps73 rfl ?_
  intro w0
  refine J.seq ?_
  refine J.region ?_
  refine O.one (Src.ro 0 rfl) (fun hV2 => ?_)
  refine O.l (Lo.box [lv] rfl (one_cells hV2)) rfl ?_
  rintro _ _ ⟨g1, rfl, rfl⟩
  refine O.p (Pu.assign rfl) rfl ?_
  refine O.nil ?_
  refine J.seq ?_
  refine J.region ?_
  refine O.p (Pu.makeFunc [.pointer (some ⟨g1, 0, none⟩)] rfl) rfl ?_
  refine O.p (Pu.assign rfl) rfl ?_
  refine O.nil ?_
  exact J.ret (Fin.ret (rs := [.tmp 2]) rfl [_] ⟨rfl, trivial⟩ [0] (by decide) [var g1 [lv] 55] rfl ⟨g1, rfl, rfl⟩)

set_option maxRecDepth 100000 in
theorem ld_Last (s id : Int) (fv : Value) (l : List Ft) (hl : l.length ≤ 100000) : Tri Try.prog 30 #[.int .i64 s, .int .i64 id, fv] [rd fv 8 (l.map Ft.cells)] [] (fun v L' => v = .tuple #[.agg #[.int .i64 (((Ld.last l s id).1).s), .int .i64 (((Ld.last l s id).1).id), .int .i64 (((Ld.last l s id).1).state), .int .i64 (((Ld.last l s id).1).level), .int .i64 (((Ld.last l s id).1).code), .int .i64 (((Ld.last l s id).1).came), .int .i64 (((Ld.last l s id).1).began), .int .i64 (((Ld.last l s id).1).ended)], .bool (Ld.last l s id).2] ∧ L' = []) := by
  refine Tri.enterI (args := [.int .i64 s, .int .i64 id, fv]) (body := _) 25 Try.func30 rfl Try.ntmps30 rfl ?_
  intro w0
  refine JI.seq ?_
  refine JI.region ?_
  refine OI.l (Lo.box [.int .i64 s] rfl rfl) rfl ?_
  rintro _ _ ⟨g1, rfl, rfl⟩
  refine OI.l (Lo.box [.int .i64 id] rfl rfl) rfl ?_
  rintro _ _ ⟨g2, rfl, rfl⟩
  refine OI.l (Lo.alloc [.int .i64 0, .int .i64 0, .int .i64 0, .int .i64 0, .int .i64 0, .int .i64 0, .int .i64 0, .int .i64 0] (by exact Try.zeroValue61) rfl) rfl ?_
  rintro _ _ ⟨g3, rfl, rfl⟩
  refine OI.l (Lo.alloc [.bool false] (by exact Try.zeroValue4) rfl) rfl ?_
  rintro _ _ ⟨g4, rfl, rfl⟩
  refine OI.nil ?_
  refine JI.seq ?_
  refine JI.seq ?_
  refine JI.region ?_
  refine OI.p (Pu.move rfl) rfl ?_
  refine OI.l (Lo.call [fv] (by exact Try.call73) rfl (ld_back fv l) [] [0, 1, 2, 3] (by decide) rfl _ rfl (RoOk.ro 0 rfl [] rfl RoOk.nil)) rfl ?_
  rintro _ _ ⟨_, ⟨gb5, rfl, rfl⟩, rfl⟩
  refine OI.nil ?_
  refine JI.block ?_
  refine JI.trim [(3, .pointer (some ⟨g1, 0, none⟩)), (4, .pointer (some ⟨g2, 0, none⟩)), (6, .pointer (some ⟨g3, 0, none⟩)), (7, .pointer (some ⟨g4, 0, none⟩)), (11, .func (.func 100) #[] #[.pointer (some ⟨gb5, 0, none⟩)])] ⟨rfl, rfl, rfl, rfl, rfl, trivial⟩ ?_
  refine JI.range (gf := 100) (X := Unit) (Z := Ft) (fun m ξ => Ld.lastNo l s id m) (fun ξ => [var gb5 [fv] 55, var g4 [.bool false] 4, var g3 [.int .i64 0, .int .i64 0, .int .i64 0, .int .i64 0, .int .i64 0, .int .i64 0, .int .i64 0, .int .i64 0] 61, var g2 [.int .i64 id] 3, var g1 [.int .i64 s] 3]) (fun x ξ => x = .ret ∧ (Ld.last l s id = (ξ, true))) (fun ξ => [var gb5 [fv] 55, var g4 [.bool true] 4, var g3 [.int .i64 ξ.s, .int .i64 ξ.id, .int .i64 ξ.state, .int .i64 ξ.level, .int .i64 ξ.code, .int .i64 ξ.came, .int .i64 ξ.began, .int .i64 ξ.ended] 61, var g2 [.int .i64 id] 3, var g1 [.int .i64 s] 3]) rfl rfl (fun _ _ => by rfl) (bw_100 gb5 fv l (by omega)) (by intro x hx; obtain ⟨j, hj⟩ := List.mem_iff_getElem?.1 hx; obtain ⟨e, _, rfl⟩ := bwXs_get hj; rfl) rfl ⟨⟩ Ld.lastNo_zero [0, 1, 2, 3, 4] (by decide) rfl (fun ξ => (RoOk.own 0 rfl (RoOk.ro 0 rfl [] rfl RoOk.nil))) (fun l7 D7 rec7 m7 y7 x7 hS7 hT7 hy7 hx7 => ?_) (fun l7 D7 r7 y7 hy7 => ?_) (fun l7 D7 r7 x7 z hy7 => ?_)
  ·
    obtain ⟨e8, he9, rfl⟩ := bwXs_get hx7
    have hno : Ld.lastNo l s id m7 := hy7
    show JI _ _ _ ([(13, .agg #[.int .i64 e8.s, .int .i64 e8.id, .int .i64 e8.state, .int .i64 e8.level, .int .i64 e8.code, .int .i64 e8.came, .int .i64 e8.began, .int .i64 e8.ended]), (12, .int .i64 ((l.length : Int) - 1 - m7))] ++ [(3, .pointer (some ⟨g1, 0, none⟩)), (4, .pointer (some ⟨g2, 0, none⟩)), (6, .pointer (some ⟨g3, 0, none⟩)), (7, .pointer (some ⟨g4, 0, none⟩)), (11, .func (.func 100) #[] #[.pointer (some ⟨gb5, 0, none⟩)])]) [blk l7 (.loop (rec7 .ready none)), blk D7 (.deferred (some [])), var gb5 [fv] 55, var g4 [.bool false] 4, var g3 [.int .i64 0, .int .i64 0, .int .i64 0, .int .i64 0, .int .i64 0, .int .i64 0, .int .i64 0, .int .i64 0] 61, var g2 [.int .i64 id] 3, var g1 [.int .i64 s] 3]
    refine JI.region ?_
    refine OI.l (Lo.alloc [.int .i64 0, .int .i64 0, .int .i64 0, .int .i64 0, .int .i64 0, .int .i64 0, .int .i64 0, .int .i64 0] (by exact Try.zeroValue61) rfl) rfl ?_
    rintro _ _ ⟨g10, rfl, rfl⟩
    refine OI.l0 (Lo.store 0 (vs := [.int .i64 e8.s, .int .i64 e8.id, .int .i64 e8.state, .int .i64 e8.level, .int .i64 e8.code, .int .i64 e8.came, .int .i64 e8.began, .int .i64 e8.ended]) [.int .i64 e8.s, .int .i64 e8.id, .int .i64 e8.state, .int .i64 e8.level, .int .i64 e8.code, .int .i64 e8.came, .int .i64 e8.began, .int .i64 e8.ended] rfl rfl rfl (by exact Try.sizeOf61) rfl rfl rfl rfl rfl) ?_
    rintro _ _ rfl
    refine OI.nil ?_
    refine JI.sel [1, 0, 2, 3, 4, 5, 6, 7] _ (by decide) rfl ?_
    refine JI.begin (hS7 _ _) ?_
    refine JI.block ?_
    refine JI.seq ?_
    refine JI.region ?_
    refine OI.p (Pu.fieldAddr (off' := 0) Try.runUnderlying61 rfl Try.sizeOf3 rfl rfl rfl) rfl ?_
    refine OI.q (Qt.ld rfl (Cel.var 1 rfl) (o := 0) (off := 0) rfl (Cut.one Try.isAgg3 rfl)) rfl ?_
    refine OI.p (Pu.fieldAddr (off' := 1) Try.runUnderlying61 rfl Try.sizeOf3 rfl rfl rfl) rfl ?_
    refine OI.q (Qt.ld rfl (Cel.var 1 rfl) (o := 0) (off := 1) rfl (Cut.one Try.isAgg3 rfl)) rfl ?_
    refine OI.p (Pu.build [(0, .int .i64 e8.s), (1, .int .i64 e8.id)] [.int .i64 e8.s, .int .i64 e8.id] #[(0, 1), (1, 1)] Try.runUnderlying129 Try.zeroValue129 (places129 Try.underlying129) rfl (by kernel_rfl)) rfl ?_
    refine OI.q (Qt.ld rfl (Cel.var 7 rfl) (o := 0) (off := 0) rfl (Cut.one Try.isAgg3 rfl)) rfl ?_
    refine OI.q (Qt.ld rfl (Cel.var 6 rfl) (o := 0) (off := 0) rfl (Cut.one Try.isAgg3 rfl)) rfl ?_
    refine OI.p (Pu.build [(0, .int .i64 s), (1, .int .i64 id)] [.int .i64 s, .int .i64 id] #[(0, 1), (1, 1)] Try.runUnderlying129 Try.zeroValue129 (places129 Try.underlying129) rfl (by kernel_rfl)) rfl ?_
    refine OI.p (Pu.eqlI [e8.s, e8.id] [s, id] Try.underlying129 Try.stoodInHeld129 Try.eqGuardType129 (fint129 Try.underlying129) rfl rfl rfl rfl) rfl ?_
    refine OI.nil ?_
    refine JI.cond rfl (fun h11 => ?_) (fun h11 => ?_)
    ·
      have p12 := of_decide_eq_true h11
      refine JI.seq ?_
      refine JI.region ?_
      refine OI.q (Qt.ld rfl (Cel.var 1 rfl) (o := 0) (off := 0) rfl (Cut.agg [.int .i64 e8.s, .int .i64 e8.id, .int .i64 e8.state, .int .i64 e8.level, .int .i64 e8.code, .int .i64 e8.came, .int .i64 e8.began, .int .i64 e8.ended] Try.isAgg61 Try.sizeOf61 rfl rfl)) rfl ?_
      refine OI.l0 (Lo.store 5 (vs := [.int .i64 e8.s, .int .i64 e8.id, .int .i64 e8.state, .int .i64 e8.level, .int .i64 e8.code, .int .i64 e8.came, .int .i64 e8.began, .int .i64 e8.ended]) [.int .i64 e8.s, .int .i64 e8.id, .int .i64 e8.state, .int .i64 e8.level, .int .i64 e8.code, .int .i64 e8.came, .int .i64 e8.began, .int .i64 e8.ended] rfl rfl rfl (by exact Try.sizeOf61) rfl rfl rfl rfl rfl) ?_
      rintro _ _ rfl
      refine OI.l0 (Lo.store 4 (vs := [.bool true]) [.bool true] rfl rfl rfl (by exact Try.sizeOf4) rfl rfl rfl rfl rfl) ?_
      rintro _ _ rfl
      refine OI.nil ?_
      exact RE.ret e8 (show (Code.ret = .ret) ∧ (Ld.last l s id = (e8, true)) from ⟨rfl, (Ld.lastNo_hit hno he9 (by simp_all))⟩) rfl [0, 2, 3, 4, 5, 6, 7] (by decide) rfl (fun _ => hT7 .ready none .done _)
    ·
      have p13 := of_decide_eq_false h11
      refine JI.skip ?_
      refine JI.blk ?_
      exact RE.nextS ⟨⟩ (show Ld.lastNo l s id (m7 + 1) from (Ld.lastNo_next hno he9 (by simp_all))) rfl [0, 2, 3, 4, 5, 6, 7] (by decide) rfl (hT7 .ready none .ready none)
  ·
    have hno : Ld.lastNo l s id (bwXs (fun x : Ft => .agg #[.int .i64 x.s, .int .i64 x.id, .int .i64 x.state, .int .i64 x.level, .int .i64 x.code, .int .i64 x.came, .int .i64 x.began, .int .i64 x.ended]) l).length := hy7
    rw [bwXs_length] at hno
    show JI _ _ _ [(3, .pointer (some ⟨g1, 0, none⟩)), (4, .pointer (some ⟨g2, 0, none⟩)), (6, .pointer (some ⟨g3, 0, none⟩)), (7, .pointer (some ⟨g4, 0, none⟩)), (11, .func (.func 100) #[] #[.pointer (some ⟨gb5, 0, none⟩)])] [blk l7 (.loop r7), blk D7 (.deferred (some [])), var gb5 [fv] 55, var g4 [.bool false] 4, var g3 [.int .i64 0, .int .i64 0, .int .i64 0, .int .i64 0, .int .i64 0, .int .i64 0, .int .i64 0, .int .i64 0] 61, var g2 [.int .i64 id] 3, var g1 [.int .i64 s] 3]
    refine JI.blk ?_
    refine JI.seq ?_
    refine JI.region ?_
    refine OI.p (Pu.build [] [.int .i64 0, .int .i64 0, .int .i64 0, .int .i64 0, .int .i64 0, .int .i64 0, .int .i64 0, .int .i64 0] #[(0, 1), (1, 1), (2, 1), (3, 1), (4, 1), (5, 1), (6, 1), (7, 1)] Try.runUnderlying61 Try.zeroValue61 (places61 Try.underlying61) rfl (by kernel_rfl)) rfl ?_
    refine OI.l0 (Lo.store 4 (vs := [.int .i64 0, .int .i64 0, .int .i64 0, .int .i64 0, .int .i64 0, .int .i64 0, .int .i64 0, .int .i64 0]) [.int .i64 0, .int .i64 0, .int .i64 0, .int .i64 0, .int .i64 0, .int .i64 0, .int .i64 0, .int .i64 0] rfl rfl rfl (by exact Try.sizeOf61) rfl rfl rfl rfl rfl) ?_
    rintro _ _ rfl
    refine OI.l0 (Lo.store 3 (vs := [.bool false]) [.bool false] rfl rfl rfl (by exact Try.sizeOf4) rfl rfl rfl rfl rfl) ?_
    rintro _ _ rfl
    refine OI.nil ?_
    exact JI.retM (j := 1) rfl rfl rfl (Fin.ret (rs := [.cell 6 61, .cell 7 4]) rfl [_, _] ⟨⟨_, _, 0, 0, _, rfl, (Cel.var 4 rfl), rfl, (Cut.agg [.int .i64 0, .int .i64 0, .int .i64 0, .int .i64 0, .int .i64 0, .int .i64 0, .int .i64 0, .int .i64 0] Try.isAgg61 Try.sizeOf61 rfl rfl)⟩, ⟨_, _, 0, 0, _, rfl, (Cel.var 3 rfl), rfl, (Cut.one Try.isAgg4 rfl)⟩, trivial⟩ [] (by decide) [] rfl ⟨(by rw [Ld.lastNo_end hno]; rfl), rfl⟩)
  ·
    obtain ⟨rfl, hz⟩ := hy7
    show JI _ _ _ [(3, .pointer (some ⟨g1, 0, none⟩)), (4, .pointer (some ⟨g2, 0, none⟩)), (6, .pointer (some ⟨g3, 0, none⟩)), (7, .pointer (some ⟨g4, 0, none⟩)), (11, .func (.func 100) #[] #[.pointer (some ⟨gb5, 0, none⟩)])] [blk l7 (.loop r7), blk D7 (.deferred (some [])), var gb5 [fv] 55, var g4 [.bool true] 4, var g3 [.int .i64 z.s, .int .i64 z.id, .int .i64 z.state, .int .i64 z.level, .int .i64 z.code, .int .i64 z.came, .int .i64 z.began, .int .i64 z.ended] 61, var g2 [.int .i64 id] 3, var g1 [.int .i64 s] 3]
    exact JI.retM (j := 1) rfl rfl rfl (Fin.ret (rs := [.cell 6 61, .cell 7 4]) rfl [_, _] ⟨⟨_, _, 0, 0, _, rfl, (Cel.var 4 rfl), rfl, (Cut.agg [.int .i64 z.s, .int .i64 z.id, .int .i64 z.state, .int .i64 z.level, .int .i64 z.code, .int .i64 z.came, .int .i64 z.began, .int .i64 z.ended] Try.isAgg61 Try.sizeOf61 rfl rfl)⟩, ⟨_, _, 0, 0, _, rfl, (Cel.var 3 rfl), rfl, (Cut.one Try.isAgg4 rfl)⟩, trivial⟩ [] (by decide) [] rfl ⟨(by rw [hz]; rfl), rfl⟩)

end Go.Proofs.Ytghhjhjpccipaaa
