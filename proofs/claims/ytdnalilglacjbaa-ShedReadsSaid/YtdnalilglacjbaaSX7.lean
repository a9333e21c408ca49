/-
  Walks, printed by a program of mine (lk.py): each function meets its contract.
-/
import Derived.KernelRfl
import Derived.Test.YtdnalilglacjbaaSX6
namespace Go.Proofs.Ytdnalilglacjbaa
open Go Go.LK
set_option linter.unusedSimpArgs false

set_option maxRecDepth 100000 in
set_option maxHeartbeats 1000000 in
theorem sd_Wrong (b c r key : Int) (sv : Value) (SS : List Svc) (lv : Value) (l : List Ev) (hl : l.length ≤ 1000) (hS : SS.length ≤ 1000) (hb : 0 ≤ b ∧ b ≤ 7) (hc : 0 ≤ c ∧ c ≤ 15) : Tri Try.prog 7 #[.agg #[.int .i64 b, .int .i64 c, .int .i64 r, .int .u64 key, sv], lv] [rd sv 14 (SS.map Svc.cells), rd lv 7 (l.map Ev.cells)] [] (fun v L' => v = .tuple #[.int .i64 (Sh.wrs b c SS l).1, .bool (Sh.wrs b c SS l).2] ∧ L' = []) := by
 refine Tri.enter (args := [.agg #[.int .i64 b, .int .i64 c, .int .i64 r, .int .u64 key, sv], lv]) (body := _) 27 Try.func7 rfl Try.ntmps7 rfl ?_
 intro w0
 refine J.seq ?_
 refine J.region ?_
 refine O.one (Src.ro 0 rfl) (fun hV2 => ?_)
 refine O.l (Lo.box [.int .i64 b, .int .i64 c, .int .i64 r, .int .u64 key, sv] rfl rfl) rfl ?_
 rintro _ _ ⟨g1, rfl, rfl⟩
 refine O.p (Pu.assign rfl) rfl ?_
 refine O.p (Pu.assign rfl) rfl ?_
 refine O.nil ?_
 refine J.seq ?_
 refine J.seq ?_
 refine J.region ?_
 refine O.p (Pu.move rfl) rfl ?_
 refine O.q (Qt.lenM Try.runUnderlying26 rfl (Src.ro 1 rfl)) rfl ?_
 refine O.p (Pu.move rfl) rfl ?_
 refine O.nil ?_
 refine J.block ?_
 refine J.loop (X := Nat) (fun ξ => ξ ≤ l.length ∧ ∀ i, i < ξ → Sh.wrAt b c SS l i = false) (fun ξ => [(1, lv), (2, .pointer (some ⟨g1, 0, none⟩)), (8, lv), (9, .int .i64 (l.length : Int)), (10, .int .i64 (ξ : Int))]) (fun ξ => [var g1 [.int .i64 b, .int .i64 c, .int .i64 r, .int .u64 key, sv] 25]) (fun ξ => l.length - ξ) 0 (show 0 ≤ l.length ∧ ∀ i, i < 0 → Sh.wrAt b c SS l i = false from ⟨by omega, fun i h => absurd h (Nat.not_lt_zero i)⟩) ⟨rfl, rfl, rfl, rfl, (congrArg (fun z => some (Value.int .i64 z)) (by first | rfl | omega : (0 : Int) = (0 : Int))), trivial⟩ [0] (by decide) rfl ?_
 rintro k hq3
 obtain ⟨hk, hno⟩ : k ≤ l.length ∧ ∀ i, i < k → Sh.wrAt b c SS l i = false := hq3
 show J _ _ [(1, lv), (2, .pointer (some ⟨g1, 0, none⟩)), (8, lv), (9, .int .i64 (l.length : Int)), (10, .int .i64 (k : Int))] [var g1 [.int .i64 b, .int .i64 c, .int .i64 r, .int .u64 key, sv] 25]
 refine J.seq ?_
 refine J.region ?_
 refine O.p (Pu.lss rfl rfl) rfl ?_
 refine O.nil ?_
 refine J.seq ?_
 refine J.cond rfl (fun h4 => ?_) (fun h4 => ?_)
 ·
  have p5 := of_decide_eq_true h4
  refine J.skip ?_
  refine J.seq ?_
  refine J.block ?_
  refine J.seq ?_
  refine J.region ?_
  refine O.p (Pu.move rfl) rfl ?_
  obtain ⟨e6, he6⟩ : ∃ x_, l[k]? = some x_ := ⟨_, List.getElem?_eq_getElem (by omega)⟩
  refine O.q (Qt.idxM Try.runUnderlying26 Try.sizeOf45 rfl (Src.ro 1 rfl) rfl (by omega) (by omega)) rfl ?_
  refine O.q (Qt.ld rfl (Cel.eltM (Src.ro 1 rfl) he6) (o := (voff lv + k * 7)) (off := 0) (by omega) (Cut.agg [.int .i64 e6.kind, .int .i64 e6.tick, .int .i64 e6.s, .int .i64 e6.id, .int .i64 e6.code, .int .i64 e6.a, .int .i64 e6.b] Try.isAgg45 Try.sizeOf45 rfl rfl)) rfl ?_
  refine O.l (Lo.alloc [.int .i64 0, .int .i64 0, .int .i64 0, .int .i64 0, .int .i64 0, .int .i64 0, .int .i64 0] (by exact Try.zeroValue45) rfl) rfl ?_
  rintro _ _ ⟨g7, rfl, rfl⟩
  refine O.p (Pu.assign rfl) rfl ?_
  refine O.l0 (Lo.store 0 (vs := [.int .i64 e6.kind, .int .i64 e6.tick, .int .i64 e6.s, .int .i64 e6.id, .int .i64 e6.code, .int .i64 e6.a, .int .i64 e6.b]) [.int .i64 e6.kind, .int .i64 e6.tick, .int .i64 e6.s, .int .i64 e6.id, .int .i64 e6.code, .int .i64 e6.a, .int .i64 e6.b] rfl rfl rfl (by exact Try.sizeOf45) rfl rfl rfl rfl rfl) ?_
  rintro _ _ rfl
  refine O.nil ?_
  refine J.seq ?_
  refine J.drawHead 8 Try.mixed (by kernel_rfl) ?_
  refine Hd.q (Qt.ld rfl (Cel.var 0 rfl) (o := 0) (off := 0) rfl (Cut.agg [.int .i64 e6.kind, .int .i64 e6.tick, .int .i64 e6.s, .int .i64 e6.id, .int .i64 e6.code, .int .i64 e6.a, .int .i64 e6.b] Try.isAgg45 Try.sizeOf45 rfl rfl)) rfl ?_
  refine Hd.call (vs := [.agg #[.int .i64 e6.kind, .int .i64 e6.tick, .int .i64 e6.s, .int .i64 e6.id, .int .i64 e6.code, .int .i64 e6.a, .int .i64 e6.b]]) (caps := []) (by exact Try.call23) rfl rfl (sd_cut e6) (fun _ _ h => h) RoOk.nil rfl ?_
  refine Hd.p (Pu.move rfl) rfl ?_
  refine by_bool (Sh.isC e6) (fun h8 => ?_) (fun h8 => ?_)
  ·
   refine Hd.gq (t := 17) rfl rfl h8 rfl (Qt.ld rfl (Cel.var 1 rfl) (o := 0) (off := 0) rfl (Cut.agg [.int .i64 b, .int .i64 c, .int .i64 r, .int .u64 key, sv] Try.isAgg25 Try.sizeOf25 rfl rfl)) rfl ?_
   refine Hd.gq (t := 17) rfl rfl h8 rfl (Qt.ld rfl (Cel.var 0 rfl) (o := 0) (off := 0) rfl (Cut.agg [.int .i64 e6.kind, .int .i64 e6.tick, .int .i64 e6.s, .int .i64 e6.id, .int .i64 e6.code, .int .i64 e6.a, .int .i64 e6.b] Try.isAgg45 Try.sizeOf45 rfl rfl)) rfl ?_
   refine Hd.gq (t := 17) rfl rfl h8 rfl (Pu.qt (Pu.move rfl)) rfl ?_
   refine Hd.gq (t := 17) rfl rfl h8 rfl (Pu.qt (Pu.move rfl)) rfl ?_
   refine Hd.gq (t := 17) rfl rfl h8 rfl (Qt.cutHead Try.runUnderlying26 Try.sizeOf45 rfl (Src.ro 1 rfl) rfl (by omega) (by omega)) rfl ?_
   refine Hd.nil ?_
   refine O.gl (t := 17) rfl rfl h8 rfl (Lo.call [.agg #[.int .i64 b, .int .i64 c, .int .i64 r, .int .u64 key, sv], .agg #[.int .i64 e6.kind, .int .i64 e6.tick, .int .i64 e6.s, .int .i64 e6.id, .int .i64 e6.code, .int .i64 e6.a, .int .i64 e6.b], vcut lv 7 0 ((k : Int)).toNat] (by exact Try.call24) rfl (sd_wrong b c r key sv SS e6 (vcut lv 7 0 ((k : Int)).toNat) (l.take ((k : Int)).toNat) (by first | omega | (rw [List.length_take]; omega)) hS hb hc) [] [0, 1] (by decide) rfl [var g7 [.int .i64 e6.kind, .int .i64 e6.tick, .int .i64 e6.s, .int .i64 e6.id, .int .i64 e6.code, .int .i64 e6.a, .int .i64 e6.b] 45, var g1 [.int .i64 b, .int .i64 c, .int .i64 r, .int .u64 key, sv] 25] rfl (RoOk.ro 0 rfl [] rfl (RoOk.roC 1 rfl (head_rd (by omega)) [] rfl RoOk.nil))) rfl ?_
   rintro _ _ ⟨_, ⟨rfl, rfl⟩, rfl⟩
   refine O.p (Pu.pickT rfl h8 rfl) rfl ?_
   refine O.nil ?_
   refine J.cond rfl (fun h10 => ?_) (fun h10 => ?_)
   ·
    refine J.seq ?_
    refine J.region ?_
    refine O.p (Pu.move rfl) rfl ?_
    refine O.p (Pu.assign rfl) rfl ?_
    refine O.p (Pu.assign rfl) rfl ?_
    refine O.nil ?_
    exact J.ret (Fin.ret (rs := [.tmp 4, .tmp 5]) rfl [_, _] ⟨rfl, rfl, trivial⟩ [] (by decide) [] rfl ⟨(by rw [Sh.wrs_hit hno (by omega) (by rw [Sh.wrAt_is he6 (a := ((k : Int)).toNat) (by omega)]; first | (simp only [*, Bool.true_and, Bool.false_and]; done) | (simp only [Sh.isC, *, Bool.true_and, Bool.and_true, Bool.false_and, Bool.and_false, decide_true]; done) | simp_all [Sh.isC])]; rfl), rfl⟩)
   ·
    refine J.skip ?_
    refine J.blk ?_
    refine J.region ?_
    refine O.p (Pu.add' rfl rfl (by first | omega | (simp only [List.length_append, List.length_cons, List.length_nil, List.length_set]; omega))) rfl ?_
    refine O.p (Pu.move rfl) rfl ?_
    refine O.nil ?_
    exact J.lp (k + 1) (show (k + 1) ≤ l.length ∧ ∀ i, i < (k + 1) → Sh.wrAt b c SS l i = false from ⟨by omega, Sh.wr_next hno (by rw [Sh.wrAt_is he6 (a := ((k : Int)).toNat) (by omega)]; first | (simp only [*, Bool.true_and, Bool.false_and]; done) | (simp only [Sh.isC, *, Bool.true_and, Bool.and_true, Bool.false_and, Bool.and_false, decide_true]; done) | simp_all [Sh.isC])⟩) (show l.length - (k + 1) < l.length - k from (by omega)) ⟨rfl, rfl, rfl, rfl, (congrArg (fun z => some (Value.int .i64 z)) (by first | rfl | omega : ((k : Int) + 1 : Int) = ((k + 1) : Int))), trivial⟩ [1] (by decide) rfl
  ·
   refine Hd.gskip (t := 17) rfl rfl (no_bool (by rw [h8]; decide)) rfl rfl ?_
   refine Hd.gskip (t := 17) rfl rfl (no_bool (by rw [h8]; decide)) rfl rfl ?_
   refine Hd.gskip (t := 17) rfl rfl (no_bool (by rw [h8]; decide)) rfl rfl ?_
   refine Hd.gskip (t := 17) rfl rfl (no_bool (by rw [h8]; decide)) rfl rfl ?_
   refine Hd.gskip (t := 17) rfl rfl (no_bool (by rw [h8]; decide)) rfl rfl ?_
   refine Hd.nil ?_
   refine O.gskip (t := 17) rfl rfl (no_bool (by rw [h8]; decide)) rfl rfl ?_
   refine O.p (Pu.pickF rfl h8 rfl) rfl ?_
   refine O.nil ?_
   refine J.condF rfl rfl ?_
   refine J.skip ?_
   refine J.blk ?_
   refine J.region ?_
   refine O.p (Pu.add' rfl rfl (by first | omega | (simp only [List.length_append, List.length_cons, List.length_nil, List.length_set]; omega))) rfl ?_
   refine O.p (Pu.move rfl) rfl ?_
   refine O.nil ?_
   exact J.lp (k + 1) (show (k + 1) ≤ l.length ∧ ∀ i, i < (k + 1) → Sh.wrAt b c SS l i = false from ⟨by omega, Sh.wr_next hno (by rw [Sh.wrAt_is he6 (a := ((k : Int)).toNat) (by omega)]; first | (simp only [*, Bool.true_and, Bool.false_and]; done) | (simp only [Sh.isC, *, Bool.true_and, Bool.and_true, Bool.false_and, Bool.and_false, decide_true]; done) | simp_all [Sh.isC])⟩) (show l.length - (k + 1) < l.length - k from (by omega)) ⟨rfl, rfl, rfl, rfl, (congrArg (fun z => some (Value.int .i64 z)) (by first | rfl | omega : ((k : Int) + 1 : Int) = ((k + 1) : Int))), trivial⟩ [1] (by decide) rfl
 ·
  have p11 := of_decide_eq_false h4
  refine J.exit _ rfl ?_
  refine J.seq ?_
  refine J.region ?_
  refine O.p (Pu.assign rfl) rfl ?_
  refine O.p (Pu.assign rfl) rfl ?_
  refine O.nil ?_
  exact J.ret (Fin.ret (rs := [.tmp 4, .tmp 5]) rfl [_, _] ⟨rfl, rfl, trivial⟩ [] (by decide) [] rfl ⟨(by rw [Sh.wrs_none hno (by omega)]; rfl), rfl⟩)

set_option maxRecDepth 100000 in
set_option maxHeartbeats 1000000 in
theorem r43_Wrong (b c r key : Int) (sv : Value) (SS : List Svc) (lv : Value) (l : List Ev) (hl : l.length ≤ 1000) (hS : SS.length ≤ 1000) (hb : 0 ≤ b ∧ b ≤ 7) (hc : 0 ≤ c ∧ c ≤ 15) : Tri Try.prog 8 #[.agg #[.int .i64 b, .int .i64 c, .int .i64 r, .int .u64 key, sv], lv] [rd sv 14 (SS.map Svc.cells), rd lv 7 (l.map Ev.cells)] [] (fun v L' => v = .tuple #[.int .i64 (Sh.wrs b c SS l).1, .bool (Sh.wrs b c SS l).2] ∧ L' = []) := by
 refine Tri.enter (args := [.agg #[.int .i64 b, .int .i64 c, .int .i64 r, .int .u64 key, sv], lv]) (body := _) 39 Try.func8 rfl Try.ntmps8 rfl ?_
 intro w0
 refine J.seq ?_
 refine J.region ?_
 refine O.one (Src.ro 0 rfl) (fun hV2 => ?_)
 refine O.l (Lo.box [.int .i64 b, .int .i64 c, .int .i64 r, .int .u64 key, sv] rfl rfl) rfl ?_
 rintro _ _ ⟨g1, rfl, rfl⟩
 refine O.p (Pu.assign rfl) rfl ?_
 refine O.p (Pu.assign rfl) rfl ?_
 refine O.nil ?_
 refine J.seq ?_
 refine J.seq ?_
 refine J.region ?_
 refine O.p (Pu.assign rfl) rfl ?_
 refine O.nil ?_
 refine J.block ?_
 refine J.loop (X := Nat) (fun ξ => ξ ≤ l.length ∧ ∀ i, i < ξ → Sh.wrAt b c SS l i = false) (fun ξ => [(1, lv), (2, .pointer (some ⟨g1, 0, none⟩)), (6, .int .i64 (ξ : Int))]) (fun ξ => [var g1 [.int .i64 b, .int .i64 c, .int .i64 r, .int .u64 key, sv] 25]) (fun ξ => l.length - ξ) 0 (show 0 ≤ l.length ∧ ∀ i, i < 0 → Sh.wrAt b c SS l i = false from ⟨by omega, fun i h => absurd h (Nat.not_lt_zero i)⟩) ⟨rfl, rfl, (congrArg (fun z => some (Value.int .i64 z)) (by first | rfl | omega : (0 : Int) = (0 : Int))), trivial⟩ [0] (by decide) rfl ?_
 rintro k hq3
 obtain ⟨hk, hno⟩ : k ≤ l.length ∧ ∀ i, i < k → Sh.wrAt b c SS l i = false := hq3
 show J _ _ [(1, lv), (2, .pointer (some ⟨g1, 0, none⟩)), (6, .int .i64 (k : Int))] [var g1 [.int .i64 b, .int .i64 c, .int .i64 r, .int .u64 key, sv] 25]
 refine J.seq ?_
 refine J.seq ?_
 refine J.region ?_
 refine O.p (Pu.move rfl) rfl ?_
 refine O.p (Pu.move rfl) rfl ?_
 refine O.q (Qt.lenM Try.runUnderlying26 rfl (Src.ro 1 rfl)) rfl ?_
 refine O.p (Pu.lss rfl rfl) rfl ?_
 refine O.nil ?_
 refine J.cond rfl (fun h4 => ?_) (fun h4 => ?_)
 ·
  have p5 := of_decide_eq_true h4
  refine J.skip ?_
  refine J.seq ?_
  refine J.block ?_
  refine J.seq ?_
  refine J.drawTail 23 Try.mixed (by kernel_rfl) ?_
  refine S.p (Pu.move rfl) rfl ?_
  refine S.p (Pu.move rfl) rfl ?_
  obtain ⟨e6, he6⟩ : ∃ x_, l[k]? = some x_ := ⟨_, List.getElem?_eq_getElem (by omega)⟩
  refine S.q (Qt.idxM Try.runUnderlying26 Try.sizeOf45 rfl (Src.ro 1 rfl) rfl (by omega) (by omega)) rfl ?_
  refine S.p (Pu.fieldAddr (off' := voff lv + ((k : Int)).toNat * 7 + 0) Try.runUnderlying45 rfl Try.sizeOf3 rfl rfl rfl) rfl ?_
  refine S.q (Qt.ld rfl (Cel.eltM (Src.ro 1 rfl) he6) (o := (voff lv + k * 7)) (off := 0) (by omega) (Cut.one Try.isAgg3 rfl)) rfl ?_
  refine S.p (Pu.eql rfl rfl) rfl ?_
  refine S.p (Pu.move rfl) rfl ?_
  refine by_bool (decide (e6.kind = 6)) (fun h7 => ?_) (fun h7 => ?_)
  ·
   have p8 := of_decide_eq_true h7
   refine S.gq (t := 19) rfl rfl h7 rfl (Pu.qt (Pu.move rfl)) rfl ?_
   refine S.gq (t := 19) rfl rfl h7 rfl (Pu.qt (Pu.move rfl)) rfl ?_
   refine S.gq (t := 19) rfl rfl h7 rfl (Qt.idxM Try.runUnderlying26 Try.sizeOf45 rfl (Src.ro 1 rfl) rfl (by omega) (by omega)) rfl ?_
   refine S.gq (t := 19) rfl rfl h7 rfl (Pu.qt (Pu.fieldAddr (off' := voff lv + ((k : Int)).toNat * 7 + 4) Try.runUnderlying45 rfl Try.sizeOf3 rfl rfl rfl)) rfl ?_
   refine S.gq (t := 19) rfl rfl h7 rfl (Qt.ld rfl (Cel.eltM (Src.ro 1 rfl) he6) (o := (voff lv + k * 7)) (off := 4) (by omega) (Cut.one Try.isAgg3 rfl)) rfl ?_
   refine S.gq (t := 19) rfl rfl h7 rfl (Pu.qt (Pu.eql rfl rfl)) rfl ?_
   refine S.p (Pu.pickT rfl h7 rfl) rfl ?_
   refine S.p (Pu.move rfl) rfl ?_
   refine by_bool (decide (e6.code = 8)) (fun h9 => ?_) (fun h9 => ?_)
   ·
    have p10 := of_decide_eq_true h9
    refine S.gq (t := 27) rfl rfl h9 rfl (Qt.ld rfl (Cel.var 0 rfl) (o := 0) (off := 0) rfl (Cut.agg [.int .i64 b, .int .i64 c, .int .i64 r, .int .u64 key, sv] Try.isAgg25 Try.sizeOf25 rfl rfl)) rfl ?_
    refine S.gq (t := 27) rfl rfl h9 rfl (Pu.qt (Pu.move rfl)) rfl ?_
    refine S.gq (t := 27) rfl rfl h9 rfl (Pu.qt (Pu.move rfl)) rfl ?_
    refine S.gq (t := 27) rfl rfl h9 rfl (Qt.idxM Try.runUnderlying26 Try.sizeOf45 rfl (Src.ro 1 rfl) rfl (by omega) (by omega)) rfl ?_
    refine S.gq (t := 27) rfl rfl h9 rfl (Qt.ld rfl (Cel.eltM (Src.ro 1 rfl) he6) (o := (voff lv + k * 7)) (off := 0) (by omega) (Cut.agg [.int .i64 e6.kind, .int .i64 e6.tick, .int .i64 e6.s, .int .i64 e6.id, .int .i64 e6.code, .int .i64 e6.a, .int .i64 e6.b] Try.isAgg45 Try.sizeOf45 rfl rfl)) rfl ?_
    refine S.gq (t := 27) rfl rfl h9 rfl (Pu.qt (Pu.move rfl)) rfl ?_
    refine S.gq (t := 27) rfl rfl h9 rfl (Pu.qt (Pu.move rfl)) rfl ?_
    refine S.gq (t := 27) rfl rfl h9 rfl (Qt.cutHead Try.runUnderlying26 Try.sizeOf45 rfl (Src.ro 1 rfl) rfl (by omega) (by omega)) rfl ?_
    refine S.endO ?_
    refine O.gl (t := 27) rfl rfl h9 rfl (Lo.call [.agg #[.int .i64 b, .int .i64 c, .int .i64 r, .int .u64 key, sv], .agg #[.int .i64 e6.kind, .int .i64 e6.tick, .int .i64 e6.s, .int .i64 e6.id, .int .i64 e6.code, .int .i64 e6.a, .int .i64 e6.b], vcut lv 7 0 ((k : Int)).toNat] (by exact Try.call25) rfl (r43_wrong b c r key sv SS e6 (vcut lv 7 0 ((k : Int)).toNat) (l.take ((k : Int)).toNat) (by first | omega | (rw [List.length_take]; omega)) hS hb hc) [] [0] (by decide) rfl [var g1 [.int .i64 b, .int .i64 c, .int .i64 r, .int .u64 key, sv] 25] rfl (RoOk.ro 0 rfl [] rfl (RoOk.roC 1 rfl (head_rd (by omega)) [] rfl RoOk.nil))) rfl ?_
    rintro _ _ ⟨_, ⟨rfl, rfl⟩, rfl⟩
    refine O.p (Pu.pickT rfl h9 rfl) rfl ?_
    refine O.nil ?_
    refine J.cond rfl (fun h12 => ?_) (fun h12 => ?_)
    ·
     refine J.seq ?_
     refine J.region ?_
     refine O.p (Pu.move rfl) rfl ?_
     refine O.p (Pu.assign rfl) rfl ?_
     refine O.p (Pu.assign rfl) rfl ?_
     refine O.nil ?_
     exact J.ret (Fin.ret (rs := [.tmp 4, .tmp 5]) rfl [_, _] ⟨rfl, rfl, trivial⟩ [] (by decide) [] rfl ⟨(by rw [Sh.wrs_hit hno (by omega) (by rw [Sh.wrAt_is he6 (a := ((k : Int)).toNat) (by omega)]; first | (simp only [*, Bool.true_and, Bool.false_and]; done) | (simp only [Sh.isC, *, Bool.true_and, Bool.and_true, Bool.false_and, Bool.and_false, decide_true]; done) | simp_all [Sh.isC])]; rfl), rfl⟩)
    ·
     refine J.skip ?_
     refine J.blk ?_
     refine J.region ?_
     refine O.p (Pu.move rfl) rfl ?_
     refine O.p (Pu.add' rfl rfl (by first | omega | (simp only [List.length_append, List.length_cons, List.length_nil, List.length_set]; omega))) rfl ?_
     refine O.p (Pu.assign rfl) rfl ?_
     refine O.nil ?_
     exact J.lp (k + 1) (show (k + 1) ≤ l.length ∧ ∀ i, i < (k + 1) → Sh.wrAt b c SS l i = false from ⟨by omega, Sh.wr_next hno (by rw [Sh.wrAt_is he6 (a := ((k : Int)).toNat) (by omega)]; first | (simp only [*, Bool.true_and, Bool.false_and]; done) | (simp only [Sh.isC, *, Bool.true_and, Bool.and_true, Bool.false_and, Bool.and_false, decide_true]; done) | simp_all [Sh.isC])⟩) (show l.length - (k + 1) < l.length - k from (by omega)) ⟨rfl, rfl, (congrArg (fun z => some (Value.int .i64 z)) (by first | rfl | omega : ((k : Int) + 1 : Int) = ((k + 1) : Int))), trivial⟩ [0] (by decide) rfl
   ·
    have p13 := of_decide_eq_false h9
    refine S.gskip (t := 27) rfl rfl (no_bool (by rw [h9]; decide)) rfl rfl ?_
    refine S.gskip (t := 27) rfl rfl (no_bool (by rw [h9]; decide)) rfl rfl ?_
    refine S.gskip (t := 27) rfl rfl (no_bool (by rw [h9]; decide)) rfl rfl ?_
    refine S.gskip (t := 27) rfl rfl (no_bool (by rw [h9]; decide)) rfl rfl ?_
    refine S.gskip (t := 27) rfl rfl (no_bool (by rw [h9]; decide)) rfl rfl ?_
    refine S.gskip (t := 27) rfl rfl (no_bool (by rw [h9]; decide)) rfl rfl ?_
    refine S.gskip (t := 27) rfl rfl (no_bool (by rw [h9]; decide)) rfl rfl ?_
    refine S.gskip (t := 27) rfl rfl (no_bool (by rw [h9]; decide)) rfl rfl ?_
    refine S.endO ?_
    refine O.gskip (t := 27) rfl rfl (no_bool (by rw [h9]; decide)) rfl rfl ?_
    refine O.p (Pu.pickF rfl h9 rfl) rfl ?_
    refine O.nil ?_
    refine J.condF rfl rfl ?_
    refine J.skip ?_
    refine J.blk ?_
    refine J.region ?_
    refine O.p (Pu.move rfl) rfl ?_
    refine O.p (Pu.add' rfl rfl (by first | omega | (simp only [List.length_append, List.length_cons, List.length_nil, List.length_set]; omega))) rfl ?_
    refine O.p (Pu.assign rfl) rfl ?_
    refine O.nil ?_
    exact J.lp (k + 1) (show (k + 1) ≤ l.length ∧ ∀ i, i < (k + 1) → Sh.wrAt b c SS l i = false from ⟨by omega, Sh.wr_next hno (by rw [Sh.wrAt_is he6 (a := ((k : Int)).toNat) (by omega)]; first | (simp only [*, Bool.true_and, Bool.false_and]; done) | (simp only [Sh.isC, *, Bool.true_and, Bool.and_true, Bool.false_and, Bool.and_false, decide_true]; done) | simp_all [Sh.isC])⟩) (show l.length - (k + 1) < l.length - k from (by omega)) ⟨rfl, rfl, (congrArg (fun z => some (Value.int .i64 z)) (by first | rfl | omega : ((k : Int) + 1 : Int) = ((k + 1) : Int))), trivial⟩ [0] (by decide) rfl
  ·
   have p14 := of_decide_eq_false h7
   refine S.gskip (t := 19) rfl rfl (no_bool (by rw [h7]; decide)) rfl rfl ?_
   refine S.gskip (t := 19) rfl rfl (no_bool (by rw [h7]; decide)) rfl rfl ?_
   refine S.gskip (t := 19) rfl rfl (no_bool (by rw [h7]; decide)) rfl rfl ?_
   refine S.gskip (t := 19) rfl rfl (no_bool (by rw [h7]; decide)) rfl rfl ?_
   refine S.gskip (t := 19) rfl rfl (no_bool (by rw [h7]; decide)) rfl rfl ?_
   refine S.gskip (t := 19) rfl rfl (no_bool (by rw [h7]; decide)) rfl rfl ?_
   refine S.p (Pu.pickF rfl h7 rfl) rfl ?_
   refine S.p (Pu.move rfl) rfl ?_
   refine S.gskip (t := 27) rfl rfl (no_bool (by decide)) rfl rfl ?_
   refine S.gskip (t := 27) rfl rfl (no_bool (by decide)) rfl rfl ?_
   refine S.gskip (t := 27) rfl rfl (no_bool (by decide)) rfl rfl ?_
   refine S.gskip (t := 27) rfl rfl (no_bool (by decide)) rfl rfl ?_
   refine S.gskip (t := 27) rfl rfl (no_bool (by decide)) rfl rfl ?_
   refine S.gskip (t := 27) rfl rfl (no_bool (by decide)) rfl rfl ?_
   refine S.gskip (t := 27) rfl rfl (no_bool (by decide)) rfl rfl ?_
   refine S.gskip (t := 27) rfl rfl (no_bool (by decide)) rfl rfl ?_
   refine S.endO ?_
   refine O.gskip (t := 27) rfl rfl (no_bool (by decide)) rfl rfl ?_
   refine O.p (Pu.pickF rfl rfl rfl) rfl ?_
   refine O.nil ?_
   refine J.condF rfl rfl ?_
   refine J.skip ?_
   refine J.blk ?_
   refine J.region ?_
   refine O.p (Pu.move rfl) rfl ?_
   refine O.p (Pu.add' rfl rfl (by first | omega | (simp only [List.length_append, List.length_cons, List.length_nil, List.length_set]; omega))) rfl ?_
   refine O.p (Pu.assign rfl) rfl ?_
   refine O.nil ?_
   exact J.lp (k + 1) (show (k + 1) ≤ l.length ∧ ∀ i, i < (k + 1) → Sh.wrAt b c SS l i = false from ⟨by omega, Sh.wr_next hno (by rw [Sh.wrAt_is he6 (a := ((k : Int)).toNat) (by omega)]; first | (simp only [*, Bool.true_and, Bool.false_and]; done) | (simp only [Sh.isC, *, Bool.true_and, Bool.and_true, Bool.false_and, Bool.and_false, decide_true]; done) | simp_all [Sh.isC])⟩) (show l.length - (k + 1) < l.length - k from (by omega)) ⟨rfl, rfl, (congrArg (fun z => some (Value.int .i64 z)) (by first | rfl | omega : ((k : Int) + 1 : Int) = ((k + 1) : Int))), trivial⟩ [0] (by decide) rfl
 ·
  have p15 := of_decide_eq_false h4
  refine J.exit _ rfl ?_
  refine J.seq ?_
  refine J.region ?_
  refine O.p (Pu.assign rfl) rfl ?_
  refine O.p (Pu.assign rfl) rfl ?_
  refine O.nil ?_
  exact J.ret (Fin.ret (rs := [.tmp 4, .tmp 5]) rfl [_, _] ⟨rfl, rfl, trivial⟩ [] (by decide) [] rfl ⟨(by rw [Sh.wrs_none hno (by omega)]; rfl), rfl⟩)

end Go.Proofs.Ytdnalilglacjbaa
