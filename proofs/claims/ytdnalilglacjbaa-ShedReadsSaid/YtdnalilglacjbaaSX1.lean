/-
  Walks, printed by a program of mine (lk.py): each function meets its contract.
-/
import Derived.KernelRfl
import Derived.Test.YtdnalilglacjbaaNumsS
import Derived.Test.YtdnalilglacjbaaShed0
namespace Go.Proofs.Ytdnalilglacjbaa
open Go Go.LK
set_option linter.unusedSimpArgs false

set_option maxRecDepth 100000 in
theorem trace_of1 (e : Ev) (g : Nat) (s : Int) : Tri Try.prog 30 #[.agg #[.int .i64 e.kind, .int .i64 e.tick, .int .i64 e.s, .int .i64 e.id, .int .i64 e.code, .int .i64 e.a, .int .i64 e.b], .pointer (some ⟨g, 0, none⟩)] [var g [.int .i64 s] 3] [] (fun v L' => v = .bool (decide (e.s = s)) ∧ L' = []) := by
 refine Tri.enter (args := [.agg #[.int .i64 e.kind, .int .i64 e.tick, .int .i64 e.s, .int .i64 e.id, .int .i64 e.code, .int .i64 e.a, .int .i64 e.b], .pointer (some ⟨g, 0, none⟩)]) (body := _) 8 Try.func30 rfl Try.ntmps30 rfl ?_
 intro w0
 refine J.seq ?_
 refine J.region ?_
 refine O.l (Lo.box [.int .i64 e.kind, .int .i64 e.tick, .int .i64 e.s, .int .i64 e.id, .int .i64 e.code, .int .i64 e.a, .int .i64 e.b] rfl rfl) rfl ?_
 rintro _ _ ⟨g1, rfl, rfl⟩
 refine O.p (Pu.assign rfl) rfl ?_
 refine O.nil ?_
 refine J.seq ?_
 refine J.region ?_
 refine O.p (Pu.fieldAddr (off' := 2) Try.runUnderlying45 rfl Try.sizeOf3 rfl rfl rfl) rfl ?_
 refine O.q (Qt.ld rfl (Cel.var 0 rfl) (o := 0) (off := 2) rfl (Cut.one Try.isAgg3 rfl)) rfl ?_
 refine O.q (Qt.ld rfl (Cel.roVar 0 rfl) (o := 0) (off := 0) rfl (Cut.one Try.isAgg3 rfl)) rfl ?_
 refine O.p (Pu.eql rfl rfl) rfl ?_
 refine O.p (Pu.assign rfl) rfl ?_
 refine O.nil ?_
 exact J.ret (Fin.ret (rs := [.tmp 3]) rfl [_] ⟨rfl, trivial⟩ [] (by decide) [] rfl ⟨rfl, rfl⟩)

set_option maxRecDepth 100000 in
theorem trace_some (fid : Nat) (caps : List Value) (p : Ev → Bool) (RoF : List Sp) (lv : Value) (l : List Ev) (hc : ∀ args w, (callFunc fid args).run Try.prog w = .ok (.enter fid args) w) (hF : ∀ e : Ev, Tri Try.prog fid (([.agg (Ev.cells e).toArray] : List Value) ++ caps).toArray RoF [] (fun v L' => v = .bool (p e) ∧ L' = [])) (hl : l.length ≤ 100000) : Tri Try.prog 29 #[lv, (.func (.func fid) #[] caps.toArray)] (rd lv 7 (l.map Ev.cells) :: RoF) [] (fun v L' => L' = [row v 45 7 ((l.filter p).map Ev.cells)]) := by
 refine Tri.enter (args := [lv, (.func (.func fid) #[] caps.toArray)]) (body := _) 23 Try.func29 rfl Try.ntmps29 rfl ?_
 intro w0
 refine J.seq ?_
 refine J.region ?_
 refine O.p (Pu.assign rfl) rfl ?_
 refine O.nil ?_
 refine J.seq ?_
 refine J.region ?_
 refine O.p (Pu.assign rfl) rfl ?_
 refine O.nil ?_
 refine J.seq ?_
 refine J.seq ?_
 refine J.region ?_
 refine O.p (Pu.move rfl) rfl ?_
 refine O.q (Qt.lenM Try.runUnderlying26 rfl (Src.ro 0 rfl)) rfl ?_
 refine O.p (Pu.move rfl) rfl ?_
 refine O.nil ?_
 refine J.block ?_
 refine J.nilRow 45 7 ?_
 refine J.loop (X := Nat × Value × List Ev) (fun ξ => ξ.1 ≤ l.length ∧ ξ.2.2 = (l.take ξ.1).filter p ∧ ξ.2.2.length ≤ ξ.1) (fun ξ => [(1, (.func (.func fid) #[] caps.toArray)), (4, Value.slice none 0 0), (5, ξ.2.1), (8, lv), (9, .int .i64 (l.length : Int)), (10, .int .i64 (ξ.1 : Int))]) (fun ξ => [row ξ.2.1 45 7 (ξ.2.2.map Ev.cells)]) (fun ξ => l.length - ξ.1) ⟨0, Value.slice none 0 0, []⟩ (show 0 ≤ l.length ∧ ([]) = (l.take 0).filter p ∧ ([]).length ≤ 0 from ⟨by omega, by simp, by simp⟩) ⟨rfl, rfl, rfl, rfl, rfl, (congrArg (fun z => some (Value.int .i64 z)) (by first | rfl | omega : (0 : Int) = (0 : Int))), trivial⟩ [0] (by decide) rfl ?_
 rintro ⟨k, V, out⟩ hq1
 obtain ⟨hk, hst, hlen⟩ : k ≤ l.length ∧ out = (l.take k).filter p ∧ out.length ≤ k := hq1
 show J _ _ [(1, (.func (.func fid) #[] caps.toArray)), (4, Value.slice none 0 0), (5, V), (8, lv), (9, .int .i64 (l.length : Int)), (10, .int .i64 (k : Int))] [row V 45 7 (out.map Ev.cells)]
 refine J.seq ?_
 refine J.region ?_
 refine O.p (Pu.lss rfl rfl) rfl ?_
 refine O.nil ?_
 refine J.seq ?_
 refine J.cond rfl (fun h2 => ?_) (fun h2 => ?_)
 ·
  have p3 := of_decide_eq_true h2
  refine J.skip ?_
  refine J.seq ?_
  refine J.block ?_
  refine J.seq ?_
  refine J.region ?_
  obtain ⟨e4, he4⟩ : ∃ x_, l[k]? = some x_ := ⟨_, List.getElem?_eq_getElem (by first | omega | (simp only [List.length_append, List.length_cons, List.length_nil, List.length_set]; omega))⟩
  refine O.q (Qt.idxM Try.runUnderlying26 Try.sizeOf45 rfl (Src.ro 0 rfl) rfl (by first | omega | (simp only [List.length_append, List.length_cons, List.length_nil, List.length_set]; omega)) (by first | omega | (simp only [List.length_append, List.length_cons, List.length_nil, List.length_set]; omega))) rfl ?_
  refine O.q (Qt.ld rfl (Cel.eltM (Src.ro 0 rfl) he4) (o := (voff lv + k * 7)) (off := 0) (by omega) (Cut.agg [.int .i64 e4.kind, .int .i64 e4.tick, .int .i64 e4.s, .int .i64 e4.id, .int .i64 e4.code, .int .i64 e4.a, .int .i64 e4.b] Try.isAgg45 Try.sizeOf45 rfl rfl)) rfl ?_
  refine O.l (Lo.alloc [.int .i64 0, .int .i64 0, .int .i64 0, .int .i64 0, .int .i64 0, .int .i64 0, .int .i64 0] (by exact Try.zeroValue45) rfl) rfl ?_
  rintro _ _ ⟨g5, rfl, rfl⟩
  refine O.l0 (Lo.store 0 (vs := [.int .i64 e4.kind, .int .i64 e4.tick, .int .i64 e4.s, .int .i64 e4.id, .int .i64 e4.code, .int .i64 e4.a, .int .i64 e4.b]) [.int .i64 e4.kind, .int .i64 e4.tick, .int .i64 e4.s, .int .i64 e4.id, .int .i64 e4.code, .int .i64 e4.a, .int .i64 e4.b] rfl rfl rfl (by exact Try.sizeOf45) rfl rfl rfl rfl rfl) ?_
  rintro _ _ rfl
  refine O.nil ?_
  refine J.seq ?_
  refine J.region ?_
  refine O.p (Pu.move rfl) rfl ?_
  refine O.q (Qt.ld rfl (Cel.var 0 rfl) (o := 0) (off := 0) rfl (Cut.agg [.int .i64 e4.kind, .int .i64 e4.tick, .int .i64 e4.s, .int .i64 e4.id, .int .i64 e4.code, .int .i64 e4.a, .int .i64 e4.b] Try.isAgg45 Try.sizeOf45 rfl rfl)) rfl ?_
  refine O.l (Lo.callV (vs := [.agg #[.int .i64 e4.kind, .int .i64 e4.tick, .int .i64 e4.s, .int .i64 e4.id, .int .i64 e4.code, .int .i64 e4.a, .int .i64 e4.b]]) (caps := caps) hc rfl rfl (hF e4) [] [0, 1] (by decide) rfl [var g5 [.int .i64 e4.kind, .int .i64 e4.tick, .int .i64 e4.s, .int .i64 e4.id, .int .i64 e4.code, .int .i64 e4.a, .int .i64 e4.b] 45, row V 45 7 (out.map Ev.cells)] rfl (RoOk.sub (fun _ hA => List.mem_cons_of_mem _ hA) [] rfl)) rfl ?_
  rintro _ _ ⟨_, ⟨rfl, rfl⟩, rfl⟩
  refine O.nil ?_
  refine J.cond rfl (fun h7 => ?_) (fun h7 => ?_)
  ·
   refine J.region ?_
   refine O.p (Pu.move rfl) rfl ?_
   refine O.q (Qt.ld rfl (Cel.var 0 rfl) (o := 0) (off := 0) rfl (Cut.agg [.int .i64 e4.kind, .int .i64 e4.tick, .int .i64 e4.s, .int .i64 e4.id, .int .i64 e4.code, .int .i64 e4.a, .int .i64 e4.b] Try.isAgg45 Try.sizeOf45 rfl rfl)) rfl ?_
   refine O.l (Lo.buildM (s := 7) Ev.cells [e4] [(0, .agg #[.int .i64 e4.kind, .int .i64 e4.tick, .int .i64 e4.s, .int .i64 e4.id, .int .i64 e4.code, .int .i64 e4.a, .int .i64 e4.b])] (by exact Try.runUnderlying26) (by exact Try.sizeOf45) (by exact Try.zeroValue45) rfl rfl rfl (by kernel_rfl) rfl rfl) rfl ?_
   rintro V8 _ rfl
   refine O.l (Lo.appendM (s := 7) 2 (by exact Try.underlying26) (by exact (info45).1) (by exact (info45).2.1) (by exact (info45).2.2.1) (by exact (info45).2.2.2) rfl rfl rfl rfl rfl (Src.row 0 rfl) Ev.one (by first | omega | (simp only [List.length_append, List.length_cons, List.length_nil, List.length_set]; omega)) (by first | omega | (simp only [List.length_append, List.length_cons, List.length_nil, List.length_set]; omega))) rfl ?_
   rintro V9 _ rfl
   refine O.p (Pu.assign rfl) rfl ?_
   refine O.nil ?_
   refine J.blk ?_
   refine J.region ?_
   refine O.p (Pu.add' rfl rfl (by first | omega | (simp only [List.length_append, List.length_cons, List.length_nil, List.length_set]; omega))) rfl ?_
   refine O.p (Pu.move rfl) rfl ?_
   refine O.nil ?_
   exact J.lp ⟨k + 1, V9, out ++ ([e4])⟩ (show (k + 1) ≤ l.length ∧ (out ++ ([e4])) = (l.take (k + 1)).filter p ∧ (out ++ ([e4])).length ≤ (k + 1) from ⟨by omega, by rw [List.take_add_one, (by assumption : l[k]? = some _), List.filter_append, ← hst]; simp [*], by first | omega | (simp; omega)⟩) (show l.length - (k + 1) < l.length - k from (by first | omega | (simp only [List.length_append, List.length_cons, List.length_nil, List.length_set]; omega))) ⟨rfl, rfl, rfl, rfl, rfl, (congrArg (fun z => some (Value.int .i64 z)) (by first | rfl | omega : ((k : Int) + 1 : Int) = ((k + 1) : Int))), trivial⟩ [2] (by decide) rfl
  ·
   refine J.skip ?_
   refine J.blk ?_
   refine J.region ?_
   refine O.p (Pu.add' rfl rfl (by first | omega | (simp only [List.length_append, List.length_cons, List.length_nil, List.length_set]; omega))) rfl ?_
   refine O.p (Pu.move rfl) rfl ?_
   refine O.nil ?_
   exact J.lp ⟨k + 1, V, out⟩ (show (k + 1) ≤ l.length ∧ out = (l.take (k + 1)).filter p ∧ out.length ≤ (k + 1) from ⟨by omega, by rw [List.take_add_one, (by assumption : l[k]? = some _), List.filter_append, ← hst]; simp [*], by first | omega | (simp; omega)⟩) (show l.length - (k + 1) < l.length - k from (by first | omega | (simp only [List.length_append, List.length_cons, List.length_nil, List.length_set]; omega))) ⟨rfl, rfl, rfl, rfl, rfl, (congrArg (fun z => some (Value.int .i64 z)) (by first | rfl | omega : ((k : Int) + 1 : Int) = ((k + 1) : Int))), trivial⟩ [1] (by decide) rfl
 ·
  have p10 := of_decide_eq_false h2
  refine J.exit _ rfl ?_
  refine J.seq ?_
  refine J.region ?_
  refine O.p (Pu.move rfl) rfl ?_
  refine O.p (Pu.assign rfl) rfl ?_
  refine O.nil ?_
  exact J.ret (Fin.ret (rs := [.tmp 4]) rfl [_] ⟨rfl, trivial⟩ [0] (by decide) [row V 45 7 (out.map Ev.cells)] rfl (congrArg (fun o => ([row V 45 7 (o.map Ev.cells)] : List Sp)) (show out = l.filter p from (by rw [hst, List.take_of_length_le (by omega)]))))

set_option maxRecDepth 100000 in
theorem trace_of (s : Int) (lv : Value) (l : List Ev) (hl : l.length ≤ 100000) : Tri Try.prog 17 #[.int .i64 s, lv] [rd lv 7 (l.map Ev.cells)] [] (fun v L' => L' = [row v 45 7 ((Mono.of s l).map Ev.cells)]) := by
 refine Tri.enter (args := [.int .i64 s, lv]) (body := _) 8 Try.func17 rfl Try.ntmps17 rfl ?_
 intro w0
 refine J.seq ?_
 refine J.region ?_
 refine O.l (Lo.box [.int .i64 s] rfl rfl) rfl ?_
 rintro _ _ ⟨g1, rfl, rfl⟩
 refine O.p (Pu.assign rfl) rfl ?_
 refine O.nil ?_
 refine J.seq ?_
 refine J.region ?_
 refine O.p (Pu.move rfl) rfl ?_
 refine O.p (Pu.makeFunc [.pointer (some ⟨g1, 0, none⟩)] rfl) rfl ?_
 refine O.l (Lo.call [lv, .func (.func 30) #[] #[.pointer (some ⟨g1, 0, none⟩)]] (by exact Try.call29) rfl (trace_some 30 [.pointer (some ⟨g1, 0, none⟩)] (fun e => decide (e.s = s)) [var g1 [.int .i64 s] 3] lv l (by exact (by exact Try.call30)) (fun e => trace_of1 e g1 s) (by omega)) [] [0] (by decide) rfl [var g1 [.int .i64 s] 3] rfl (RoOk.ro 0 rfl [] rfl (RoOk.of 0 rfl same_rd [] (by decide) rfl RoOk.nil))) rfl ?_
 rintro v2 _ ⟨_, rfl, rfl⟩
 refine O.p (Pu.assign rfl) rfl ?_
 refine O.nil ?_
 exact J.ret (Fin.ret (rs := [.tmp 4]) rfl [_] ⟨rfl, trivial⟩ [0] (by decide) [row v2 45 7 ((Mono.of s l).map Ev.cells)] rfl rfl)

set_option maxRecDepth 100000 in
theorem bd_Keep (n most : Int) : Tri Try.prog 28 #[.int .i64 n, .int .i64 most] [] [] (fun v L' => v = .int .i64 (Sh.keep n most) ∧ L' = []) := by
 refine Tri.enter (args := [.int .i64 n, .int .i64 most]) (body := _) 9 Try.func28 rfl Try.ntmps28 rfl ?_
 intro w0
 refine J.seq ?_
 refine J.region ?_
 refine O.p (Pu.assign rfl) rfl ?_
 refine O.nil ?_
 refine J.seq ?_
 refine J.region ?_
 refine O.p (Pu.move rfl) rfl ?_
 refine O.p (Pu.move rfl) rfl ?_
 refine O.p (Pu.min rfl rfl) rfl ?_
 refine O.p (Pu.max rfl rfl) rfl ?_
 refine O.p (Pu.assign rfl) rfl ?_
 refine O.nil ?_
 exact J.ret (Fin.ret (rs := [.tmp 4]) rfl [_] ⟨rfl, trivial⟩ [] (by decide) [] rfl ⟨rfl, rfl⟩)

set_option maxRecDepth 100000 in
theorem bd_minus (a b : Int) (h1 : 0 ≤ a ∧ a ≤ 1099511627776) (h2 : 0 ≤ b ∧ b ≤ 1099511627776) : Tri Try.prog 39 #[.int .i64 a, .int .i64 b] [] [] (fun v L' => v = .int .i64 (a - b) ∧ L' = []) := by
 refine Tri.enter (args := [.int .i64 a, .int .i64 b]) (body := _) 8 Try.func39 rfl Try.ntmps39 rfl ?_
 intro w0
 refine J.seq ?_
 refine J.region ?_
 refine O.p (Pu.assign rfl) rfl ?_
 refine O.nil ?_
 refine J.seq ?_
 refine J.region ?_
 refine O.p (Pu.move rfl) rfl ?_
 refine O.p (Pu.move rfl) rfl ?_
 refine O.p (Pu.sub' rfl rfl (by omega)) rfl ?_
 refine O.p (Pu.assign rfl) rfl ?_
 refine O.nil ?_
 exact J.ret (Fin.ret (rs := [.tmp 4]) rfl [_] ⟨rfl, trivial⟩ [] (by decide) [] rfl ⟨rfl, rfl⟩)

set_option maxRecDepth 100000 in
theorem bd_ticksL (a b : Int) : Tri Try.prog 38 #[.int .i64 a, .int .i64 b, .func (.func 39) #[] #[]] [] [] (fun v L' => v = .int .i64 (Sh.left a b) ∧ L' = []) := by
 refine Tri.enter (args := [.int .i64 a, .int .i64 b, .func (.func 39) #[] #[]]) (body := _) 14 Try.func38 rfl Try.ntmps38 rfl ?_
 intro w0
 refine J.seq ?_
 refine J.region ?_
 refine O.p (Pu.assign rfl) rfl ?_
 refine O.nil ?_
 refine J.seq ?_
 refine J.region ?_
 refine O.p (Pu.move rfl) rfl ?_
 refine O.p (Pu.move rfl) rfl ?_
 refine O.l (Lo.call [.int .i64 a, .int .i64 1099511627776] (by exact Try.call28) rfl (bd_Keep a 1099511627776) [] [] (by decide) rfl [] rfl RoOk.nil) rfl ?_
 rintro _ _ ⟨_, ⟨rfl, rfl⟩, rfl⟩
 refine O.p (Pu.move rfl) rfl ?_
 refine O.l (Lo.call [.int .i64 b, .int .i64 1099511627776] (by exact Try.call28) rfl (bd_Keep b 1099511627776) [] [] (by decide) rfl [] rfl RoOk.nil) rfl ?_
 rintro _ _ ⟨_, ⟨rfl, rfl⟩, rfl⟩
 refine O.l (Lo.callV (vs := [.int .i64 (Sh.keep a 1099511627776), .int .i64 (Sh.keep b 1099511627776)]) (caps := []) (by exact Try.call39) rfl rfl (bd_minus (Sh.keep a 1099511627776) (Sh.keep b 1099511627776) (Sh.keep_bnd _ (by decide)) (Sh.keep_bnd _ (by decide))) [] [] (by decide) rfl [] rfl RoOk.nil) rfl ?_
 rintro _ _ ⟨_, ⟨rfl, rfl⟩, rfl⟩
 refine O.l (Lo.call [.int .i64 ((Sh.keep a 1099511627776) - (Sh.keep b 1099511627776)), .int .i64 1099511627776] (by exact Try.call28) rfl (bd_Keep ((Sh.keep a 1099511627776) - (Sh.keep b 1099511627776)) 1099511627776) [] [] (by decide) rfl [] rfl RoOk.nil) rfl ?_
 rintro _ _ ⟨_, ⟨rfl, rfl⟩, rfl⟩
 refine O.p (Pu.assign rfl) rfl ?_
 refine O.nil ?_
 exact J.ret (Fin.ret (rs := [.tmp 6]) rfl [_] ⟨rfl, trivial⟩ [] (by decide) [] rfl ⟨rfl, rfl⟩)

set_option maxRecDepth 100000 in
theorem bd_Left (a b : Int) : Tri Try.prog 31 #[.int .i64 a, .int .i64 b] [] [] (fun v L' => v = .int .i64 (Sh.left a b) ∧ L' = []) := by
 refine Tri.enter (args := [.int .i64 a, .int .i64 b]) (body := _) 8 Try.func31 rfl Try.ntmps31 rfl ?_
 intro w0
 refine J.seq ?_
 refine J.region ?_
 refine O.p (Pu.assign rfl) rfl ?_
 refine O.nil ?_
 refine J.seq ?_
 refine J.region ?_
 refine O.p (Pu.move rfl) rfl ?_
 refine O.p (Pu.move rfl) rfl ?_
 refine O.l (Lo.call [.int .i64 a, .int .i64 b, .func (.func 39) #[] #[]] (by exact Try.call38) rfl (bd_ticksL a b) [] [] (by decide) rfl [] rfl RoOk.nil) rfl ?_
 rintro _ _ ⟨_, ⟨rfl, rfl⟩, rfl⟩
 refine O.p (Pu.assign rfl) rfl ?_
 refine O.nil ?_
 exact J.ret (Fin.ret (rs := [.tmp 4]) rfl [_] ⟨rfl, trivial⟩ [] (by decide) [] rfl ⟨rfl, rfl⟩)

set_option maxRecDepth 100000 in
theorem r01_Keep (n most : Int) : Tri Try.prog 40 #[.int .i64 n, .int .i64 most] [] [] (fun v L' => v = .int .i64 (Sh.keep n most) ∧ L' = []) := by
 refine Tri.enter (args := [.int .i64 n, .int .i64 most]) (body := _) 16 Try.func40 rfl Try.ntmps40 rfl ?_
 intro w0
 refine J.seq ?_
 refine J.region ?_
 refine O.p (Pu.assign rfl) rfl ?_
 refine O.nil ?_
 refine J.seq ?_
 refine J.seq ?_
 refine J.region ?_
 refine O.p (Pu.move rfl) rfl ?_
 refine O.p (Pu.lss rfl rfl) rfl ?_
 refine O.p (Pu.move rfl) rfl ?_
 refine by_bool (decide (n < 0)) (fun h1 => ?_) (fun h1 => ?_)
 ·
  have p2 := of_decide_eq_true h1
  refine O.gskip (t := 7) rfl rfl (no_bool (by rw [h1]; decide)) rfl rfl ?_
  refine O.gskip (t := 7) rfl rfl (no_bool (by rw [h1]; decide)) rfl rfl ?_
  refine O.p (Pu.pickT rfl h1 rfl) rfl ?_
  refine O.nil ?_
  refine J.condT rfl rfl ?_
  refine J.seq ?_
  refine J.region ?_
  refine O.p (Pu.assign rfl) rfl ?_
  refine O.nil ?_
  exact J.ret (Fin.ret (rs := [.tmp 4]) rfl [_] ⟨rfl, trivial⟩ [] (by decide) [] rfl ⟨(by simp only [vOf]; congr 1; unfold Sh.keep; (repeat' split) <;> omega), rfl⟩)
 ·
  have p3 := of_decide_eq_false h1
  refine O.gq (t := 7) rfl rfl h1 rfl (Pu.qt (Pu.move rfl)) rfl ?_
  refine O.gq (t := 7) rfl rfl h1 rfl (Pu.qt (Pu.lss rfl rfl)) rfl ?_
  refine O.p (Pu.pickF rfl h1 rfl) rfl ?_
  refine O.nil ?_
  refine J.cond rfl (fun h4 => ?_) (fun h4 => ?_)
  ·
   have p5 := of_decide_eq_true h4
   refine J.seq ?_
   refine J.region ?_
   refine O.p (Pu.assign rfl) rfl ?_
   refine O.nil ?_
   exact J.ret (Fin.ret (rs := [.tmp 4]) rfl [_] ⟨rfl, trivial⟩ [] (by decide) [] rfl ⟨(by simp only [vOf]; congr 1; unfold Sh.keep; (repeat' split) <;> omega), rfl⟩)
  ·
   have p6 := of_decide_eq_false h4
   refine J.skip ?_
   refine J.seq ?_
   refine J.seq ?_
   refine J.region ?_
   refine O.p (Pu.move rfl) rfl ?_
   refine O.p (Pu.move rfl) rfl ?_
   refine O.p (Pu.gtr rfl rfl) rfl ?_
   refine O.nil ?_
   refine J.cond rfl (fun h7 => ?_) (fun h7 => ?_)
   ·
    have p8 := of_decide_eq_true h7
    refine J.seq ?_
    refine J.region ?_
    refine O.p (Pu.move rfl) rfl ?_
    refine O.p (Pu.assign rfl) rfl ?_
    refine O.nil ?_
    exact J.ret (Fin.ret (rs := [.tmp 4]) rfl [_] ⟨rfl, trivial⟩ [] (by decide) [] rfl ⟨(by simp only [vOf]; congr 1; unfold Sh.keep; (repeat' split) <;> omega), rfl⟩)
   ·
    have p9 := of_decide_eq_false h7
    refine J.skip ?_
    refine J.seq ?_
    refine J.region ?_
    refine O.p (Pu.move rfl) rfl ?_
    refine O.p (Pu.assign rfl) rfl ?_
    refine O.nil ?_
    exact J.ret (Fin.ret (rs := [.tmp 4]) rfl [_] ⟨rfl, trivial⟩ [] (by decide) [] rfl ⟨(by simp only [vOf]; congr 1; unfold Sh.keep; (repeat' split) <;> omega), rfl⟩)

set_option maxRecDepth 100000 in
theorem r01_Tick (n : Int) : Tri Try.prog 32 #[.int .i64 n] [] [] (fun v L' => v = .int .i64 (Sh.tick n) ∧ L' = []) := by
 refine Tri.enter (args := [.int .i64 n]) (body := _) 5 Try.func32 rfl Try.ntmps32 rfl ?_
 intro w0
 refine J.seq ?_
 refine J.region ?_
 refine O.p (Pu.assign rfl) rfl ?_
 refine O.nil ?_
 refine J.seq ?_
 refine J.region ?_
 refine O.p (Pu.move rfl) rfl ?_
 refine O.l (Lo.call [.int .i64 n, .int .i64 1099511627776] (by exact Try.call40) rfl (r01_Keep n 1099511627776) [] [] (by decide) rfl [] rfl RoOk.nil) rfl ?_
 rintro _ _ ⟨_, ⟨rfl, rfl⟩, rfl⟩
 refine O.p (Pu.assign rfl) rfl ?_
 refine O.nil ?_
 exact J.ret (Fin.ret (rs := [.tmp 2]) rfl [_] ⟨rfl, trivial⟩ [] (by decide) [] rfl ⟨rfl, rfl⟩)

set_option maxRecDepth 100000 in
theorem r01_Left (a b : Int) : Tri Try.prog 33 #[.int .i64 a, .int .i64 b] [] [] (fun v L' => v = .int .i64 (Sh.left a b) ∧ L' = []) := by
 refine Tri.enter (args := [.int .i64 a, .int .i64 b]) (body := _) 11 Try.func33 rfl Try.ntmps33 rfl ?_
 intro w0
 refine J.seq ?_
 refine J.region ?_
 refine O.p (Pu.assign rfl) rfl ?_
 refine O.nil ?_
 refine J.seq ?_
 refine J.region ?_
 refine O.p (Pu.move rfl) rfl ?_
 refine O.l (Lo.call [.int .i64 a] (by exact Try.call32) rfl (r01_Tick a) [] [] (by decide) rfl [] rfl RoOk.nil) rfl ?_
 rintro _ _ ⟨_, ⟨rfl, rfl⟩, rfl⟩
 refine O.p (Pu.move rfl) rfl ?_
 refine O.l (Lo.call [.int .i64 b] (by exact Try.call32) rfl (r01_Tick b) [] [] (by decide) rfl [] rfl RoOk.nil) rfl ?_
 rintro _ _ ⟨_, ⟨rfl, rfl⟩, rfl⟩
 refine O.p (Pu.sub' rfl rfl (by have h1_ := Sh.tick_bnd a; have h2_ := Sh.tick_bnd b; omega)) rfl ?_
 refine O.l (Lo.call [.int .i64 ((Sh.tick a) - (Sh.tick b))] (by exact Try.call32) rfl (r01_Tick ((Sh.tick a) - (Sh.tick b))) [] [] (by decide) rfl [] rfl RoOk.nil) rfl ?_
 rintro _ _ ⟨_, ⟨rfl, rfl⟩, rfl⟩
 refine O.p (Pu.assign rfl) rfl ?_
 refine O.nil ?_
 exact J.ret (Fin.ret (rs := [.tmp 4]) rfl [_] ⟨rfl, trivial⟩ [] (by decide) [] rfl ⟨rfl, rfl⟩)

set_option maxRecDepth 100000 in
theorem lv_Passes (n t : Int) : Tri Try.prog 35 #[.int .i64 n, .int .i64 t] [] [] (fun v L' => v = .bool (Sh.passes n t) ∧ L' = []) := by
 refine Tri.enter (args := [.int .i64 n, .int .i64 t]) (body := _) 12 Try.func35 rfl Try.ntmps35 rfl ?_
 intro w0
 refine J.seq ?_
 refine J.region ?_
 refine O.p (Pu.assign rfl) rfl ?_
 refine O.nil ?_
 refine J.seq ?_
 refine J.region ?_
 refine O.p (Pu.move rfl) rfl ?_
 refine O.p (Pu.geq rfl rfl) rfl ?_
 refine O.p (Pu.move rfl) rfl ?_
 refine by_bool (decide (0 ≤ n)) (fun h1 => ?_) (fun h1 => ?_)
 ·
  have p2 := of_decide_eq_true h1
  refine O.gq (t := 7) rfl rfl h1 rfl (Pu.qt (Pu.move rfl)) rfl ?_
  refine O.gq (t := 7) rfl rfl h1 rfl (Pu.qt (Pu.move rfl)) rfl ?_
  refine O.gq (t := 7) rfl rfl h1 rfl (Pu.qt (Pu.lss rfl rfl)) rfl ?_
  refine O.p (Pu.pickT rfl h1 rfl) rfl ?_
  refine O.p (Pu.assign rfl) rfl ?_
  refine O.nil ?_
  exact J.ret (Fin.ret (rs := [.tmp 4]) rfl [_] ⟨rfl, trivial⟩ [] (by decide) [] rfl ⟨(by simp [vOf, Sh.passes, *]), rfl⟩)
 ·
  have p3 := of_decide_eq_false h1
  refine O.gskip (t := 7) rfl rfl (no_bool (by rw [h1]; decide)) rfl rfl ?_
  refine O.gskip (t := 7) rfl rfl (no_bool (by rw [h1]; decide)) rfl rfl ?_
  refine O.gskip (t := 7) rfl rfl (no_bool (by rw [h1]; decide)) rfl rfl ?_
  refine O.p (Pu.pickF rfl h1 rfl) rfl ?_
  refine O.p (Pu.assign rfl) rfl ?_
  refine O.nil ?_
  exact J.ret (Fin.ret (rs := [.tmp 4]) rfl [_] ⟨rfl, trivial⟩ [] (by decide) [] rfl ⟨(by simp [vOf, Sh.passes, *]), rfl⟩)

set_option maxRecDepth 100000 in
theorem sd_cut (e : Ev) : Tri Try.prog 23 #[.agg #[.int .i64 e.kind, .int .i64 e.tick, .int .i64 e.s, .int .i64 e.id, .int .i64 e.code, .int .i64 e.a, .int .i64 e.b]] [] [] (fun v L' => v = .bool (Sh.isC e) ∧ L' = []) := by
 refine Tri.enter (args := [.agg #[.int .i64 e.kind, .int .i64 e.tick, .int .i64 e.s, .int .i64 e.id, .int .i64 e.code, .int .i64 e.a, .int .i64 e.b]]) (body := _) 11 Try.func23 rfl Try.ntmps23 rfl ?_
 intro w0
 refine J.seq ?_
 refine J.region ?_
 refine O.l (Lo.box [.int .i64 e.kind, .int .i64 e.tick, .int .i64 e.s, .int .i64 e.id, .int .i64 e.code, .int .i64 e.a, .int .i64 e.b] rfl rfl) rfl ?_
 rintro _ _ ⟨g1, rfl, rfl⟩
 refine O.p (Pu.assign rfl) rfl ?_
 refine O.nil ?_
 refine J.seq ?_
 refine J.region ?_
 refine O.p (Pu.fieldAddr (off' := 0) Try.runUnderlying45 rfl Try.sizeOf3 rfl rfl rfl) rfl ?_
 refine O.q (Qt.ld rfl (Cel.var 0 rfl) (o := 0) (off := 0) rfl (Cut.one Try.isAgg3 rfl)) rfl ?_
 refine O.p (Pu.eql rfl rfl) rfl ?_
 refine O.p (Pu.move rfl) rfl ?_
 refine by_bool (decide (e.kind = 6)) (fun h2 => ?_) (fun h2 => ?_)
 ·
  have p3 := of_decide_eq_true h2
  refine O.gq (t := 6) rfl rfl h2 rfl (Pu.qt (Pu.fieldAddr (off' := 4) Try.runUnderlying45 rfl Try.sizeOf3 rfl rfl rfl)) rfl ?_
  refine O.gq (t := 6) rfl rfl h2 rfl (Qt.ld rfl (Cel.var 0 rfl) (o := 0) (off := 4) rfl (Cut.one Try.isAgg3 rfl)) rfl ?_
  refine O.gq (t := 6) rfl rfl h2 rfl (Pu.qt (Pu.eql rfl rfl)) rfl ?_
  refine O.p (Pu.pickT rfl h2 rfl) rfl ?_
  refine O.p (Pu.assign rfl) rfl ?_
  refine O.nil ?_
  exact J.ret (Fin.ret (rs := [.tmp 2]) rfl [_] ⟨rfl, trivial⟩ [] (by decide) [] rfl ⟨(by simp [vOf, Sh.isC, *]), rfl⟩)
 ·
  have p4 := of_decide_eq_false h2
  refine O.gskip (t := 6) rfl rfl (no_bool (by rw [h2]; decide)) rfl rfl ?_
  refine O.gskip (t := 6) rfl rfl (no_bool (by rw [h2]; decide)) rfl rfl ?_
  refine O.gskip (t := 6) rfl rfl (no_bool (by rw [h2]; decide)) rfl rfl ?_
  refine O.p (Pu.pickF rfl h2 rfl) rfl ?_
  refine O.p (Pu.assign rfl) rfl ?_
  refine O.nil ?_
  exact J.ret (Fin.ret (rs := [.tmp 2]) rfl [_] ⟨rfl, trivial⟩ [] (by decide) [] rfl ⟨(by simp [vOf, Sh.isC, *]), rfl⟩)

set_option maxRecDepth 100000 in
theorem tb_has (p : Nat) (ttl : Int) (d : Sh.Ts) (to : Int) : Tri Try.prog 27 #[.pointer (some ⟨p, 0, none⟩), .int .i64 to] [var p (Sh.tbC ttl d) 73] [] (fun v L' => v = .bool (Sh.has to) ∧ L' = []) := by
 refine Tri.enter (args := [.pointer (some ⟨p, 0, none⟩), .int .i64 to]) (body := _) 21 Try.func27 rfl Try.ntmps27 rfl ?_
 intro w0
 refine J.seq ?_
 refine J.region ?_
 refine O.p (Pu.assign rfl) rfl ?_
 refine O.nil ?_
 refine J.seq ?_
 refine J.region ?_
 refine O.p (Pu.move rfl) rfl ?_
 refine O.p (Pu.ptrNe Try.underlying47 rfl) rfl ?_
 refine O.p (Pu.move rfl) rfl ?_
 refine O.gq (t := 7) rfl rfl rfl rfl (Pu.qt (Pu.move rfl)) rfl ?_
 refine O.gq (t := 7) rfl rfl rfl rfl (Pu.qt (Pu.nilCheck rfl)) rfl ?_
 refine O.gq (t := 7) rfl rfl rfl rfl (Pu.qt (Pu.fieldAddr (off' := 0) Try.runUnderlying73 rfl Try.sizeOf4 rfl rfl rfl)) rfl ?_
 refine O.gq (t := 7) rfl rfl rfl rfl (Qt.ld rfl (Cel.roVar 0 rfl) (o := 0) (off := 0) rfl (Cut.one Try.isAgg4 rfl)) rfl ?_
 refine O.p (Pu.pickT rfl rfl rfl) rfl ?_
 refine O.p (Pu.move rfl) rfl ?_
 refine O.gq (t := 13) rfl rfl rfl rfl (Pu.qt (Pu.move rfl)) rfl ?_
 refine O.gq (t := 13) rfl rfl rfl rfl (Pu.qt (Pu.geq rfl rfl)) rfl ?_
 refine O.p (Pu.pickT rfl rfl rfl) rfl ?_
 refine O.p (Pu.move rfl) rfl ?_
 refine by_bool (decide (0 ≤ to)) (fun h1 => ?_) (fun h1 => ?_)
 ·
  have p2 := of_decide_eq_true h1
  refine O.gq (t := 17) rfl rfl h1 rfl (Pu.qt (Pu.move rfl)) rfl ?_
  refine O.gq (t := 17) rfl rfl h1 rfl (Pu.qt (Pu.lss rfl rfl)) rfl ?_
  refine O.p (Pu.pickT rfl h1 rfl) rfl ?_
  refine O.p (Pu.assign rfl) rfl ?_
  refine O.nil ?_
  exact J.ret (Fin.ret (rs := [.tmp 4]) rfl [_] ⟨rfl, trivial⟩ [] (by decide) [] rfl ⟨(by simp [vOf, Sh.has, *]), rfl⟩)
 ·
  have p3 := of_decide_eq_false h1
  refine O.gskip (t := 17) rfl rfl (no_bool (by rw [h1]; decide)) rfl rfl ?_
  refine O.gskip (t := 17) rfl rfl (no_bool (by rw [h1]; decide)) rfl rfl ?_
  refine O.p (Pu.pickF rfl h1 rfl) rfl ?_
  refine O.p (Pu.assign rfl) rfl ?_
  refine O.nil ?_
  exact J.ret (Fin.ret (rs := [.tmp 4]) rfl [_] ⟨rfl, trivial⟩ [] (by decide) [] rfl ⟨(by simp [vOf, Sh.has, *]), rfl⟩)

set_option maxRecDepth 100000 in
theorem tb_New (ttl : Int) (hb : Sh.bad ttl = false) : Tri Try.prog 15 #[.int .i64 ttl] [] [] (fun v L' => ∃ p, v = .tuple #[.pointer (some ⟨p, 0, none⟩), .int .i64 0] ∧ L' = [var p (Sh.tbC ttl Sh.nil) 73]) := by
 have hb2 : ¬ (ttl < 0 ∨ 1099511627776 < ttl) := by simpa [Sh.bad] using hb
 refine Tri.enter (args := [.int .i64 ttl]) (body := _) 13 Try.func15 rfl Try.ntmps15 rfl ?_
 intro w0
 refine J.seq ?_
 refine J.region ?_
 refine O.p (Pu.assign rfl) rfl ?_
 refine O.p (Pu.assign rfl) rfl ?_
 refine O.nil ?_
 refine J.seq ?_
 refine J.seq ?_
 refine J.region ?_
 refine O.p (Pu.move rfl) rfl ?_
 refine O.p (Pu.lss rfl rfl) rfl ?_
 refine O.p (Pu.move rfl) rfl ?_
 refine O.gq (t := 6) rfl rfl (decide_eq_false (by omega)) rfl (Pu.qt (Pu.move rfl)) rfl ?_
 refine O.gq (t := 6) rfl rfl (decide_eq_false (by omega)) rfl (Pu.qt (Pu.gtr rfl rfl)) rfl ?_
 refine O.p (Pu.pickF rfl (decide_eq_false (by omega)) rfl) rfl ?_
 refine O.nil ?_
 refine J.condF rfl (decide_eq_false (by omega)) ?_
 refine J.skip ?_
 refine J.seq ?_
 refine J.region ?_
 refine O.p (Pu.move rfl) rfl ?_
 refine O.p (Pu.build [(0, .bool true), (1, .int .i64 ttl)] [.bool true, .int .i64 ttl, .bool false, .int .i64 0, .int .i64 0, .int .i64 0, .int .i64 0, .bool false, .int .i64 0, .int .i64 0, .int .i64 0, .int .i64 0, .bool false, .int .i64 0, .int .i64 0, .int .i64 0, .int .i64 0, .bool false, .int .i64 0, .int .i64 0, .int .i64 0, .int .i64 0, .bool false, .int .i64 0, .int .i64 0, .int .i64 0, .int .i64 0, .bool false, .int .i64 0, .int .i64 0, .int .i64 0, .int .i64 0, .bool false, .int .i64 0, .int .i64 0, .int .i64 0, .int .i64 0, .bool false, .int .i64 0, .int .i64 0, .int .i64 0, .int .i64 0] #[(0, 1), (1, 1), (2, 40)] Try.runUnderlying73 Try.zeroValue73 (places73 Try.underlying73) rfl (by kernel_rfl)) rfl ?_
 refine O.l (Lo.box [.bool true, .int .i64 ttl, .bool false, .int .i64 0, .int .i64 0, .int .i64 0, .int .i64 0, .bool false, .int .i64 0, .int .i64 0, .int .i64 0, .int .i64 0, .bool false, .int .i64 0, .int .i64 0, .int .i64 0, .int .i64 0, .bool false, .int .i64 0, .int .i64 0, .int .i64 0, .int .i64 0, .bool false, .int .i64 0, .int .i64 0, .int .i64 0, .int .i64 0, .bool false, .int .i64 0, .int .i64 0, .int .i64 0, .int .i64 0, .bool false, .int .i64 0, .int .i64 0, .int .i64 0, .int .i64 0, .bool false, .int .i64 0, .int .i64 0, .int .i64 0, .int .i64 0] rfl rfl) rfl ?_
 rintro _ _ ⟨g1, rfl, rfl⟩
 refine O.p (Pu.assign rfl) rfl ?_
 refine O.p (Pu.assign rfl) rfl ?_
 refine O.nil ?_
 exact J.ret (Fin.ret (rs := [.tmp 2, .tmp 3]) rfl [_, _] ⟨rfl, rfl, trivial⟩ [0] (by decide) [var g1 [.bool true, .int .i64 ttl, .bool false, .int .i64 0, .int .i64 0, .int .i64 0, .int .i64 0, .bool false, .int .i64 0, .int .i64 0, .int .i64 0, .int .i64 0, .bool false, .int .i64 0, .int .i64 0, .int .i64 0, .int .i64 0, .bool false, .int .i64 0, .int .i64 0, .int .i64 0, .int .i64 0, .bool false, .int .i64 0, .int .i64 0, .int .i64 0, .int .i64 0, .bool false, .int .i64 0, .int .i64 0, .int .i64 0, .int .i64 0, .bool false, .int .i64 0, .int .i64 0, .int .i64 0, .int .i64 0, .bool false, .int .i64 0, .int .i64 0, .int .i64 0, .int .i64 0] 73] rfl ⟨g1, rfl, rfl⟩)

set_option maxRecDepth 100000 in
theorem tb_NewNo (ttl : Int) (hb : Sh.bad ttl = true) : Tri Try.prog 15 #[.int .i64 ttl] [] [] (fun v L' => v = .tuple #[.pointer none, .int .i64 1] ∧ L' = []) := by
 have hb2 : ttl < 0 ∨ 1099511627776 < ttl := by simpa [Sh.bad] using hb
 refine Tri.enter (args := [.int .i64 ttl]) (body := _) 13 Try.func15 rfl Try.ntmps15 rfl ?_
 intro w0
 refine J.seq ?_
 refine J.region ?_
 refine O.p (Pu.assign rfl) rfl ?_
 refine O.p (Pu.assign rfl) rfl ?_
 refine O.nil ?_
 refine J.seq ?_
 refine J.seq ?_
 refine J.region ?_
 refine O.p (Pu.move rfl) rfl ?_
 refine O.p (Pu.lss rfl rfl) rfl ?_
 refine O.p (Pu.move rfl) rfl ?_
 refine by_bool (decide (ttl < 0)) (fun h1 => ?_) (fun h1 => ?_)
 ·
  have p2 := of_decide_eq_true h1
  refine O.gskip (t := 6) rfl rfl (no_bool (by rw [h1]; decide)) rfl rfl ?_
  refine O.gskip (t := 6) rfl rfl (no_bool (by rw [h1]; decide)) rfl rfl ?_
  refine O.p (Pu.pickT rfl h1 rfl) rfl ?_
  refine O.nil ?_
  refine J.condT rfl rfl ?_
  refine J.seq ?_
  refine J.region ?_
  refine O.p (Pu.assign rfl) rfl ?_
  refine O.p (Pu.assign rfl) rfl ?_
  refine O.nil ?_
  exact J.ret (Fin.ret (rs := [.tmp 2, .tmp 3]) rfl [_, _] ⟨rfl, rfl, trivial⟩ [] (by decide) [] rfl ⟨rfl, rfl⟩)
 ·
  have p3 := of_decide_eq_false h1
  refine O.gq (t := 6) rfl rfl h1 rfl (Pu.qt (Pu.move rfl)) rfl ?_
  refine O.gq (t := 6) rfl rfl h1 rfl (Pu.qt (Pu.gtr rfl rfl)) rfl ?_
  refine O.p (Pu.pickF rfl h1 rfl) rfl ?_
  refine O.nil ?_
  refine J.cond rfl (fun h4 => ?_) (fun h4 => ?_)
  ·
   have p5 := of_decide_eq_true h4
   refine J.seq ?_
   refine J.region ?_
   refine O.p (Pu.assign rfl) rfl ?_
   refine O.p (Pu.assign rfl) rfl ?_
   refine O.nil ?_
   exact J.ret (Fin.ret (rs := [.tmp 2, .tmp 3]) rfl [_, _] ⟨rfl, rfl, trivial⟩ [] (by decide) [] rfl ⟨rfl, rfl⟩)
  ·
   have p6 := of_decide_eq_false h4
   exfalso; omega

set_option maxRecDepth 100000 in
set_option maxHeartbeats 1000000 in
theorem tb_Learn (p : Nat) (ttl : Int) (d : Sh.Ts) (to thr ep now : Int) : Tri Try.prog 16 #[.pointer (some ⟨p, 0, none⟩), .int .i64 to, .int .i64 thr, .int .i64 ep, .int .i64 now] [] [var p (Sh.tbC ttl d) 73] (fun v L' => ∃ d', d' = (Sh.lrn d to thr ep now).1 ∧ v = .bool (Sh.lrn d to thr ep now).2 ∧ L' = [var p (Sh.tbC ttl d') 73]) := by
 refine Tri.enter (args := [.pointer (some ⟨p, 0, none⟩), .int .i64 to, .int .i64 thr, .int .i64 ep, .int .i64 now]) (body := _) 62 Try.func16 rfl Try.ntmps16 rfl ?_
 intro w0
 refine J.seq ?_
 refine J.region ?_
 refine O.p (Pu.assign rfl) rfl ?_
 refine O.nil ?_
 refine J.seq ?_
 refine J.seq ?_
 refine J.region ?_
 refine O.p (Pu.move rfl) rfl ?_
 refine O.p (Pu.move rfl) rfl ?_
 refine O.l (Lo.call [.pointer (some ⟨p, 0, none⟩), .int .i64 to] (by exact Try.call27) rfl (tb_has p ttl d to) [] [0] (by decide) rfl [var p (Sh.tbC ttl d) 73] rfl (RoOk.of 0 rfl same_rd [] (by decide) rfl RoOk.nil)) rfl ?_
 rintro _ _ ⟨_, ⟨rfl, rfl⟩, rfl⟩
 refine O.p (Pu.not rfl) rfl ?_
 refine O.nil ?_
 refine J.cond rfl (fun h2 => ?_) (fun h2 => ?_)
 ·
  have h3 : (Sh.has to) = false := not_flip h2
  refine J.seq ?_
  refine J.region ?_
  refine O.p (Pu.assign rfl) rfl ?_
  refine O.nil ?_
  exact J.ret (Fin.ret (rs := [.tmp 10]) rfl [_] ⟨rfl, trivial⟩ [0] (by decide) [var p (Sh.tbC ttl d) 73] rfl ⟨_, rfl, (by rw [Sh.lrn_out ‹_›]; rfl), (by rw [Sh.lrn_out ‹_›])⟩)
 ·
  have h4 : (Sh.has to) = true := not_flip h2
  refine J.skip ?_
  refine J.seq ?_
  have hto := Sh.has_iff.1 (by assumption : Sh.has to = true)
  refine J.region ?_
  refine O.p (Pu.move rfl) rfl ?_
  refine O.p (Pu.move rfl) rfl ?_
  refine O.p (Pu.nilCheck rfl) rfl ?_
  refine O.p (Pu.fieldAddr (off' := 2) Try.runUnderlying73 rfl Try.sizeOf71 rfl rfl rfl) rfl ?_
  refine O.p (Pu.indexAddrG Try.runUnderlying71 Try.sizeOf70 rfl rfl (by omega) (by omega)) rfl ?_
  refine O.p (Pu.assign rfl) rfl ?_
  refine O.nil ?_
  refine J.seq ?_
  refine J.seq ?_
  refine by_bool ((d (to).toNat).isSome) (fun h5 => ?_) (fun h5 => ?_)
  ·
   obtain ⟨k, hd⟩ : ∃ k, d to.toNat = some k := Option.isSome_iff_exists.1 h5
   have hkw : Sh.kw (d to.toNat) = k := by rw [hd]; rfl
   have hke := congrArg Kw.ep hkw
   have hka := congrArg Kw.at_ hkw
   refine J.region ?_
   refine O.p (Pu.move rfl) rfl ?_
   refine O.p (Pu.nilCheck rfl) rfl ?_
   refine O.q (Qt.ld rfl (Cel.var 0 rfl) (o := 0) (off := 2 + (to).toNat * 5) (by omega) (Cut.agg [.bool ((d (to).toNat).isSome), .int .i64 ((Sh.kw (d (to).toNat)).to), .int .i64 ((Sh.kw (d (to).toNat)).thr), .int .i64 ((Sh.kw (d (to).toNat)).ep), .int .i64 ((Sh.kw (d (to).toNat)).at_)] Try.isAgg70 Try.sizeOf70 (Sh.tb_all (by omega) rfl) rfl)) rfl ?_
   refine O.p (Pu.build [] [.bool false, .int .i64 0, .int .i64 0, .int .i64 0, .int .i64 0] #[(0, 1), (1, 4)] Try.runUnderlying70 Try.zeroValue70 (places70 Try.underlying70) rfl (by kernel_rfl)) rfl ?_
   refine O.p (Pu.neqG (xs := #[.bool ((d (to).toNat).isSome), .int .i64 ((Sh.kw (d (to).toNat)).to), .int .i64 ((Sh.kw (d (to).toNat)).thr), .int .i64 ((Sh.kw (d (to).toNat)).ep), .int .i64 ((Sh.kw (d (to).toNat)).at_)]) (ys := #[.bool false, .int .i64 0, .int .i64 0, .int .i64 0, .int .i64 0]) Try.eqGuardType70 (.struct Try.underlying70 Try.stoodInHeld70 (.cons rfl (partOne (v := .bool ((d (to).toNat).isSome)) Try.isAgg4 rfl) (partOne (v := .bool false) Try.isAgg4 rfl) (.bool Try.underlying4) (.cons rfl (partAgg (l := [.int .i64 ((Sh.kw (d (to).toNat)).to), .int .i64 ((Sh.kw (d (to).toNat)).thr), .int .i64 ((Sh.kw (d (to).toNat)).ep), .int .i64 ((Sh.kw (d (to).toNat)).at_)]) (n := 4) Try.isAgg30 Try.sizeOf30 (by kernel_rfl)) (partAgg (l := [.int .i64 0, .int .i64 0, .int .i64 0, .int .i64 0]) (n := 4) Try.isAgg30 Try.sizeOf30 (by kernel_rfl)) (.struct Try.underlying30 Try.stoodInHeld30 (.cons rfl (partOne (v := .int .i64 ((Sh.kw (d (to).toNat)).to)) Try.isAgg3 rfl) (partOne (v := .int .i64 0) Try.isAgg3 rfl) (.int Try.underlying3) (.cons rfl (partOne (v := .int .i64 ((Sh.kw (d (to).toNat)).thr)) Try.isAgg3 rfl) (partOne (v := .int .i64 0) Try.isAgg3 rfl) (.int Try.underlying3) (.cons rfl (partOne (v := .int .i64 ((Sh.kw (d (to).toNat)).ep)) Try.isAgg3 rfl) (partOne (v := .int .i64 0) Try.isAgg3 rfl) (.int Try.underlying3) (.cons rfl (partOne (v := .int .i64 ((Sh.kw (d (to).toNat)).at_)) Try.isAgg3 rfl) (partOne (v := .int .i64 0) Try.isAgg3 rfl) (.int Try.underlying3) .nil))))) .nil))) rfl rfl) rfl ?_
   refine O.p (Pu.move rfl) rfl ?_
   refine O.gq (t := 26) rfl rfl (show (!((((d (to).toNat).isSome) == false) && (((decide (((Sh.kw (d (to).toNat)).to) = 0)) && ((decide (((Sh.kw (d (to).toNat)).thr) = 0)) && ((decide (((Sh.kw (d (to).toNat)).ep) = 0)) && ((decide (((Sh.kw (d (to).toNat)).at_) = 0)) && (true))))) && (true)))) = true from by simp [h5, hkw, Sh.zeroK]) rfl (Pu.qt (Pu.move rfl)) rfl ?_
   refine O.gq (t := 26) rfl rfl (show (!((((d (to).toNat).isSome) == false) && (((decide (((Sh.kw (d (to).toNat)).to) = 0)) && ((decide (((Sh.kw (d (to).toNat)).thr) = 0)) && ((decide (((Sh.kw (d (to).toNat)).ep) = 0)) && ((decide (((Sh.kw (d (to).toNat)).at_) = 0)) && (true))))) && (true)))) = true from by simp [h5, hkw, Sh.zeroK]) rfl (Pu.qt (Pu.nilCheck rfl)) rfl ?_
   refine O.gq (t := 26) rfl rfl (show (!((((d (to).toNat).isSome) == false) && (((decide (((Sh.kw (d (to).toNat)).to) = 0)) && ((decide (((Sh.kw (d (to).toNat)).thr) = 0)) && ((decide (((Sh.kw (d (to).toNat)).ep) = 0)) && ((decide (((Sh.kw (d (to).toNat)).at_) = 0)) && (true))))) && (true)))) = true from by simp [h5, hkw, Sh.zeroK]) rfl (Pu.qt (Pu.fieldAddr (off' := 2 + (to).toNat * 5 + 1) Try.runUnderlying70 rfl Try.sizeOf30 rfl rfl rfl)) rfl ?_
   refine O.gq (t := 26) rfl rfl (show (!((((d (to).toNat).isSome) == false) && (((decide (((Sh.kw (d (to).toNat)).to) = 0)) && ((decide (((Sh.kw (d (to).toNat)).thr) = 0)) && ((decide (((Sh.kw (d (to).toNat)).ep) = 0)) && ((decide (((Sh.kw (d (to).toNat)).at_) = 0)) && (true))))) && (true)))) = true from by simp [h5, hkw, Sh.zeroK]) rfl (Pu.qt (Pu.fieldAddr (off' := 2 + (to).toNat * 5 + 1 + 2) Try.runUnderlying30 rfl Try.sizeOf3 rfl rfl rfl)) rfl ?_
   refine O.gq (t := 26) rfl rfl (show (!((((d (to).toNat).isSome) == false) && (((decide (((Sh.kw (d (to).toNat)).to) = 0)) && ((decide (((Sh.kw (d (to).toNat)).thr) = 0)) && ((decide (((Sh.kw (d (to).toNat)).ep) = 0)) && ((decide (((Sh.kw (d (to).toNat)).at_) = 0)) && (true))))) && (true)))) = true from by simp [h5, hkw, Sh.zeroK]) rfl (Qt.ld rfl (Cel.var 0 rfl) (o := 0) (off := 2 + (to).toNat * 5 + 3) (by omega) (Cut.one Try.isAgg3 (Sh.tb_one (i := 3) (by omega) rfl rfl))) rfl ?_
   refine O.gq (t := 26) rfl rfl (show (!((((d (to).toNat).isSome) == false) && (((decide (((Sh.kw (d (to).toNat)).to) = 0)) && ((decide (((Sh.kw (d (to).toNat)).thr) = 0)) && ((decide (((Sh.kw (d (to).toNat)).ep) = 0)) && ((decide (((Sh.kw (d (to).toNat)).at_) = 0)) && (true))))) && (true)))) = true from by simp [h5, hkw, Sh.zeroK]) rfl (Pu.qt (Pu.move rfl)) rfl ?_
   refine O.gq (t := 26) rfl rfl (show (!((((d (to).toNat).isSome) == false) && (((decide (((Sh.kw (d (to).toNat)).to) = 0)) && ((decide (((Sh.kw (d (to).toNat)).thr) = 0)) && ((decide (((Sh.kw (d (to).toNat)).ep) = 0)) && ((decide (((Sh.kw (d (to).toNat)).at_) = 0)) && (true))))) && (true)))) = true from by simp [h5, hkw, Sh.zeroK]) rfl (Pu.qt (Pu.gtr rfl rfl)) rfl ?_
   refine O.p (Pu.pickT rfl (show (!((((d (to).toNat).isSome) == false) && (((decide (((Sh.kw (d (to).toNat)).to) = 0)) && ((decide (((Sh.kw (d (to).toNat)).thr) = 0)) && ((decide (((Sh.kw (d (to).toNat)).ep) = 0)) && ((decide (((Sh.kw (d (to).toNat)).at_) = 0)) && (true))))) && (true)))) = true from by simp [h5, hkw, Sh.zeroK]) rfl) rfl ?_
   refine O.nil ?_
   refine J.cond rfl (fun h6 => ?_) (fun h6 => ?_)
   ·
    have p7 := of_decide_eq_true h6
    refine J.seq ?_
    refine J.region ?_
    refine O.p (Pu.assign rfl) rfl ?_
    refine O.nil ?_
    exact J.ret (Fin.ret (rs := [.tmp 10]) rfl [_] ⟨rfl, trivial⟩ [0] (by decide) [var p (Sh.tbC ttl d) 73] rfl ⟨_, rfl, (by rw [Sh.lrn_late hd (by omega)]; rfl), (by rw [Sh.lrn_late hd (by omega)])⟩)
   ·
    have p8 := of_decide_eq_false h6
    refine J.skip ?_
    refine J.seq ?_
    refine J.seq ?_
    refine J.region ?_
    refine O.p (Pu.move rfl) rfl ?_
    refine O.p (Pu.nilCheck rfl) rfl ?_
    refine O.p (Pu.fieldAddr (off' := 2 + (to).toNat * 5 + 0) Try.runUnderlying70 rfl Try.sizeOf4 rfl rfl rfl) rfl ?_
    refine O.q (Qt.ld rfl (Cel.var 0 rfl) (o := 0) (off := 2 + (to).toNat * 5) (by omega) (Cut.one Try.isAgg4 (Sh.tb_one (i := 0) (by omega) rfl rfl))) rfl ?_
    refine O.p (Pu.not rfl) rfl ?_
    refine O.p (Pu.move rfl) rfl ?_
    refine O.gq (t := 40) rfl rfl (show (!((d (to).toNat).isSome)) = false from by rw [h5]; rfl) rfl (Pu.qt (Pu.move rfl)) rfl ?_
    refine O.gq (t := 40) rfl rfl (show (!((d (to).toNat).isSome)) = false from by rw [h5]; rfl) rfl (Pu.qt (Pu.nilCheck rfl)) rfl ?_
    refine O.gq (t := 40) rfl rfl (show (!((d (to).toNat).isSome)) = false from by rw [h5]; rfl) rfl (Pu.qt (Pu.fieldAddr (off' := 2 + (to).toNat * 5 + 1) Try.runUnderlying70 rfl Try.sizeOf30 rfl rfl rfl)) rfl ?_
    refine O.gq (t := 40) rfl rfl (show (!((d (to).toNat).isSome)) = false from by rw [h5]; rfl) rfl (Pu.qt (Pu.fieldAddr (off' := 2 + (to).toNat * 5 + 1 + 2) Try.runUnderlying30 rfl Try.sizeOf3 rfl rfl rfl)) rfl ?_
    refine O.gq (t := 40) rfl rfl (show (!((d (to).toNat).isSome)) = false from by rw [h5]; rfl) rfl (Qt.ld rfl (Cel.var 0 rfl) (o := 0) (off := 2 + (to).toNat * 5 + 3) (by omega) (Cut.one Try.isAgg3 (Sh.tb_one (i := 3) (by omega) rfl rfl))) rfl ?_
    refine O.gq (t := 40) rfl rfl (show (!((d (to).toNat).isSome)) = false from by rw [h5]; rfl) rfl (Pu.qt (Pu.move rfl)) rfl ?_
    refine O.gq (t := 40) rfl rfl (show (!((d (to).toNat).isSome)) = false from by rw [h5]; rfl) rfl (Pu.qt (Pu.lss rfl rfl)) rfl ?_
    refine O.p (Pu.pickF rfl (show (!((d (to).toNat).isSome)) = false from by rw [h5]; rfl) rfl) rfl ?_
    refine O.nil ?_
    refine J.cond rfl (fun h9 => ?_) (fun h9 => ?_)
    ·
     have p10 := of_decide_eq_true h9
     refine J.region ?_
     refine O.p (Pu.move rfl) rfl ?_
     refine O.p (Pu.move rfl) rfl ?_
     refine O.p (Pu.move rfl) rfl ?_
     refine O.p (Pu.move rfl) rfl ?_
     refine O.p (Pu.build [(0, .int .i64 to), (1, .int .i64 thr), (2, .int .i64 ep)] [.int .i64 to, .int .i64 thr, .int .i64 ep, .int .i64 0] #[(0, 1), (1, 1), (2, 1), (3, 1)] Try.runUnderlying30 Try.zeroValue30 (places30 Try.underlying30) rfl (by kernel_rfl)) rfl ?_
     refine O.p (Pu.build [(0, .bool true), (1, .agg #[.int .i64 to, .int .i64 thr, .int .i64 ep, .int .i64 0])] [.bool true, .int .i64 to, .int .i64 thr, .int .i64 ep, .int .i64 0] #[(0, 1), (1, 4)] Try.runUnderlying70 Try.zeroValue70 (places70 Try.underlying70) rfl (by kernel_rfl)) rfl ?_
     refine O.p (Pu.nilCheck rfl) rfl ?_
     refine O.l0 (Lo.store 0 (vs := [.bool true, .int .i64 to, .int .i64 thr, .int .i64 ep, .int .i64 0]) (Sh.tbC ttl (Sh.upd d to (⟨to, thr, ep, 0⟩ : Kw))) rfl rfl rfl (by exact Try.sizeOf70) rfl rfl rfl (Sh.tb_set5 (to := to) (d := d) (k := (⟨to, thr, ep, 0⟩ : Kw)) (by omega) (by omega)) (Sh.tb_fit (to := to) (i := 0) (n := 5) (by omega) (by omega) (by decide))) ?_
     rintro _ _ rfl
     refine O.nil ?_
     refine J.seq ?_
     refine J.region ?_
     refine O.p (Pu.move rfl) rfl ?_
     refine O.p (Pu.move rfl) rfl ?_
     refine O.l (Lo.call [.int .i64 now, .int .i64 1099511627776] (by exact Try.call28) rfl (bd_Keep now 1099511627776) [] [0] (by decide) rfl [var p (Sh.tbC ttl (Sh.upd d to (⟨to, thr, ep, 0⟩ : Kw))) 73] rfl RoOk.nil) rfl ?_
     rintro _ _ ⟨_, ⟨rfl, rfl⟩, rfl⟩
     refine O.p (Pu.nilCheck rfl) rfl ?_
     refine O.p (Pu.fieldAddr (off' := 2 + (to).toNat * 5 + 1) Try.runUnderlying70 rfl Try.sizeOf30 rfl rfl rfl) rfl ?_
     refine O.p (Pu.fieldAddr (off' := 2 + (to).toNat * 5 + 1 + 3) Try.runUnderlying30 rfl Try.sizeOf3 rfl rfl rfl) rfl ?_
     refine O.l0 (Lo.store 0 (vs := [.int .i64 (Sh.keep now 1099511627776)]) (Sh.tbC ttl (Sh.upd (Sh.upd d to (⟨to, thr, ep, 0⟩ : Kw)) to (Sh.atK (Sh.upd d to (⟨to, thr, ep, 0⟩ : Kw)) to (Sh.keep now 1099511627776)))) rfl rfl rfl (by exact Try.sizeOf3) rfl rfl rfl (Sh.tb_set1 (to := to) (d := (Sh.upd d to (⟨to, thr, ep, 0⟩ : Kw))) (by omega) (by omega) (by rw [Sh.upd_self hto.1]; rfl) (Sh.keep now 1099511627776)) (Sh.tb_fit (to := to) (i := 4) (n := 1) (by omega) (by omega) (by decide))) ?_
     rintro _ _ rfl
     refine O.nil ?_
     refine J.seq ?_
     refine J.region ?_
     refine O.p (Pu.assign rfl) rfl ?_
     refine O.nil ?_
     exact J.ret (Fin.ret (rs := [.tmp 10]) rfl [_] ⟨rfl, trivial⟩ [0] (by decide) [var p (Sh.tbC ttl (Sh.upd (Sh.upd d to (⟨to, thr, ep, 0⟩ : Kw)) to (Sh.atK (Sh.upd d to (⟨to, thr, ep, 0⟩ : Kw)) to (Sh.keep now 1099511627776)))) 73] rfl ⟨_, rfl, (by rw [Sh.lrn_more ‹_› hd (by omega)]; rfl), (by rw [Sh.lrn_more ‹_› hd (by omega)]; rw [Sh.upd_upd]; first | (simp only [Sh.atK, Sh.upd_self hto.1, Sh.kw]; rfl) | (simp only [Sh.atK, hkw]; rfl))⟩)
    ·
     have p12 := of_decide_eq_false h9
     refine J.skip ?_
     refine J.seq ?_
     refine J.region ?_
     refine O.p (Pu.move rfl) rfl ?_
     refine O.p (Pu.move rfl) rfl ?_
     refine O.l (Lo.call [.int .i64 now, .int .i64 1099511627776] (by exact Try.call28) rfl (bd_Keep now 1099511627776) [] [0] (by decide) rfl [var p (Sh.tbC ttl d) 73] rfl RoOk.nil) rfl ?_
     rintro _ _ ⟨_, ⟨rfl, rfl⟩, rfl⟩
     refine O.p (Pu.nilCheck rfl) rfl ?_
     refine O.p (Pu.fieldAddr (off' := 2 + (to).toNat * 5 + 1) Try.runUnderlying70 rfl Try.sizeOf30 rfl rfl rfl) rfl ?_
     refine O.p (Pu.fieldAddr (off' := 2 + (to).toNat * 5 + 1 + 3) Try.runUnderlying30 rfl Try.sizeOf3 rfl rfl rfl) rfl ?_
     refine O.l0 (Lo.store 0 (vs := [.int .i64 (Sh.keep now 1099511627776)]) (Sh.tbC ttl (Sh.upd d to (Sh.atK d to (Sh.keep now 1099511627776)))) rfl rfl rfl (by exact Try.sizeOf3) rfl rfl rfl (Sh.tb_set1 (to := to) (d := d) (by omega) (by omega) (by rw [hd]; rfl) (Sh.keep now 1099511627776)) (Sh.tb_fit (to := to) (i := 4) (n := 1) (by omega) (by omega) (by decide))) ?_
     rintro _ _ rfl
     refine O.nil ?_
     refine J.seq ?_
     refine J.region ?_
     refine O.p (Pu.assign rfl) rfl ?_
     refine O.nil ?_
     exact J.ret (Fin.ret (rs := [.tmp 10]) rfl [_] ⟨rfl, trivial⟩ [0] (by decide) [var p (Sh.tbC ttl (Sh.upd d to (Sh.atK d to (Sh.keep now 1099511627776)))) 73] rfl ⟨_, rfl, (by rw [Sh.lrn_same ‹_› hd (by omega)]; rfl), (by rw [Sh.lrn_same ‹_› hd (by omega)]; first | (simp only [Sh.atK, Sh.upd_self hto.1, Sh.kw]; rfl) | (simp only [Sh.atK, hkw]; rfl))⟩)
  ·
   have hd : d to.toNat = none := by simpa using h5
   have hkw : Sh.kw (d to.toNat) = Sh.zeroK := by rw [hd]; rfl
   refine J.region ?_
   refine O.p (Pu.move rfl) rfl ?_
   refine O.p (Pu.nilCheck rfl) rfl ?_
   refine O.q (Qt.ld rfl (Cel.var 0 rfl) (o := 0) (off := 2 + (to).toNat * 5) (by omega) (Cut.agg [.bool ((d (to).toNat).isSome), .int .i64 ((Sh.kw (d (to).toNat)).to), .int .i64 ((Sh.kw (d (to).toNat)).thr), .int .i64 ((Sh.kw (d (to).toNat)).ep), .int .i64 ((Sh.kw (d (to).toNat)).at_)] Try.isAgg70 Try.sizeOf70 (Sh.tb_all (by omega) rfl) rfl)) rfl ?_
   refine O.p (Pu.build [] [.bool false, .int .i64 0, .int .i64 0, .int .i64 0, .int .i64 0] #[(0, 1), (1, 4)] Try.runUnderlying70 Try.zeroValue70 (places70 Try.underlying70) rfl (by kernel_rfl)) rfl ?_
   refine O.p (Pu.neqG (xs := #[.bool ((d (to).toNat).isSome), .int .i64 ((Sh.kw (d (to).toNat)).to), .int .i64 ((Sh.kw (d (to).toNat)).thr), .int .i64 ((Sh.kw (d (to).toNat)).ep), .int .i64 ((Sh.kw (d (to).toNat)).at_)]) (ys := #[.bool false, .int .i64 0, .int .i64 0, .int .i64 0, .int .i64 0]) Try.eqGuardType70 (.struct Try.underlying70 Try.stoodInHeld70 (.cons rfl (partOne (v := .bool ((d (to).toNat).isSome)) Try.isAgg4 rfl) (partOne (v := .bool false) Try.isAgg4 rfl) (.bool Try.underlying4) (.cons rfl (partAgg (l := [.int .i64 ((Sh.kw (d (to).toNat)).to), .int .i64 ((Sh.kw (d (to).toNat)).thr), .int .i64 ((Sh.kw (d (to).toNat)).ep), .int .i64 ((Sh.kw (d (to).toNat)).at_)]) (n := 4) Try.isAgg30 Try.sizeOf30 (by kernel_rfl)) (partAgg (l := [.int .i64 0, .int .i64 0, .int .i64 0, .int .i64 0]) (n := 4) Try.isAgg30 Try.sizeOf30 (by kernel_rfl)) (.struct Try.underlying30 Try.stoodInHeld30 (.cons rfl (partOne (v := .int .i64 ((Sh.kw (d (to).toNat)).to)) Try.isAgg3 rfl) (partOne (v := .int .i64 0) Try.isAgg3 rfl) (.int Try.underlying3) (.cons rfl (partOne (v := .int .i64 ((Sh.kw (d (to).toNat)).thr)) Try.isAgg3 rfl) (partOne (v := .int .i64 0) Try.isAgg3 rfl) (.int Try.underlying3) (.cons rfl (partOne (v := .int .i64 ((Sh.kw (d (to).toNat)).ep)) Try.isAgg3 rfl) (partOne (v := .int .i64 0) Try.isAgg3 rfl) (.int Try.underlying3) (.cons rfl (partOne (v := .int .i64 ((Sh.kw (d (to).toNat)).at_)) Try.isAgg3 rfl) (partOne (v := .int .i64 0) Try.isAgg3 rfl) (.int Try.underlying3) .nil))))) .nil))) rfl rfl) rfl ?_
   refine O.p (Pu.move rfl) rfl ?_
   refine O.gskip (t := 26) rfl rfl (no_bool (by rw [(show (!((((d (to).toNat).isSome) == false) && (((decide (((Sh.kw (d (to).toNat)).to) = 0)) && ((decide (((Sh.kw (d (to).toNat)).thr) = 0)) && ((decide (((Sh.kw (d (to).toNat)).ep) = 0)) && ((decide (((Sh.kw (d (to).toNat)).at_) = 0)) && (true))))) && (true)))) = false from by simp [h5, hkw, Sh.zeroK])]; decide)) rfl rfl ?_
   refine O.gskip (t := 26) rfl rfl (no_bool (by rw [(show (!((((d (to).toNat).isSome) == false) && (((decide (((Sh.kw (d (to).toNat)).to) = 0)) && ((decide (((Sh.kw (d (to).toNat)).thr) = 0)) && ((decide (((Sh.kw (d (to).toNat)).ep) = 0)) && ((decide (((Sh.kw (d (to).toNat)).at_) = 0)) && (true))))) && (true)))) = false from by simp [h5, hkw, Sh.zeroK])]; decide)) rfl rfl ?_
   refine O.gskip (t := 26) rfl rfl (no_bool (by rw [(show (!((((d (to).toNat).isSome) == false) && (((decide (((Sh.kw (d (to).toNat)).to) = 0)) && ((decide (((Sh.kw (d (to).toNat)).thr) = 0)) && ((decide (((Sh.kw (d (to).toNat)).ep) = 0)) && ((decide (((Sh.kw (d (to).toNat)).at_) = 0)) && (true))))) && (true)))) = false from by simp [h5, hkw, Sh.zeroK])]; decide)) rfl rfl ?_
   refine O.gskip (t := 26) rfl rfl (no_bool (by rw [(show (!((((d (to).toNat).isSome) == false) && (((decide (((Sh.kw (d (to).toNat)).to) = 0)) && ((decide (((Sh.kw (d (to).toNat)).thr) = 0)) && ((decide (((Sh.kw (d (to).toNat)).ep) = 0)) && ((decide (((Sh.kw (d (to).toNat)).at_) = 0)) && (true))))) && (true)))) = false from by simp [h5, hkw, Sh.zeroK])]; decide)) rfl rfl ?_
   refine O.gskip (t := 26) rfl rfl (no_bool (by rw [(show (!((((d (to).toNat).isSome) == false) && (((decide (((Sh.kw (d (to).toNat)).to) = 0)) && ((decide (((Sh.kw (d (to).toNat)).thr) = 0)) && ((decide (((Sh.kw (d (to).toNat)).ep) = 0)) && ((decide (((Sh.kw (d (to).toNat)).at_) = 0)) && (true))))) && (true)))) = false from by simp [h5, hkw, Sh.zeroK])]; decide)) rfl rfl ?_
   refine O.gskip (t := 26) rfl rfl (no_bool (by rw [(show (!((((d (to).toNat).isSome) == false) && (((decide (((Sh.kw (d (to).toNat)).to) = 0)) && ((decide (((Sh.kw (d (to).toNat)).thr) = 0)) && ((decide (((Sh.kw (d (to).toNat)).ep) = 0)) && ((decide (((Sh.kw (d (to).toNat)).at_) = 0)) && (true))))) && (true)))) = false from by simp [h5, hkw, Sh.zeroK])]; decide)) rfl rfl ?_
   refine O.gskip (t := 26) rfl rfl (no_bool (by rw [(show (!((((d (to).toNat).isSome) == false) && (((decide (((Sh.kw (d (to).toNat)).to) = 0)) && ((decide (((Sh.kw (d (to).toNat)).thr) = 0)) && ((decide (((Sh.kw (d (to).toNat)).ep) = 0)) && ((decide (((Sh.kw (d (to).toNat)).at_) = 0)) && (true))))) && (true)))) = false from by simp [h5, hkw, Sh.zeroK])]; decide)) rfl rfl ?_
   refine O.p (Pu.pickF rfl (show (!((((d (to).toNat).isSome) == false) && (((decide (((Sh.kw (d (to).toNat)).to) = 0)) && ((decide (((Sh.kw (d (to).toNat)).thr) = 0)) && ((decide (((Sh.kw (d (to).toNat)).ep) = 0)) && ((decide (((Sh.kw (d (to).toNat)).at_) = 0)) && (true))))) && (true)))) = false from by simp [h5, hkw, Sh.zeroK]) rfl) rfl ?_
   refine O.nil ?_
   refine J.condF rfl rfl ?_
   refine J.skip ?_
   refine J.seq ?_
   refine J.seq ?_
   refine J.region ?_
   refine O.p (Pu.move rfl) rfl ?_
   refine O.p (Pu.nilCheck rfl) rfl ?_
   refine O.p (Pu.fieldAddr (off' := 2 + (to).toNat * 5 + 0) Try.runUnderlying70 rfl Try.sizeOf4 rfl rfl rfl) rfl ?_
   refine O.q (Qt.ld rfl (Cel.var 0 rfl) (o := 0) (off := 2 + (to).toNat * 5) (by omega) (Cut.one Try.isAgg4 (Sh.tb_one (i := 0) (by omega) rfl rfl))) rfl ?_
   refine O.p (Pu.not rfl) rfl ?_
   refine O.p (Pu.move rfl) rfl ?_
   refine O.gskip (t := 40) rfl rfl (no_bool (by rw [(show (!((d (to).toNat).isSome)) = true from by rw [h5]; rfl)]; decide)) rfl rfl ?_
   refine O.gskip (t := 40) rfl rfl (no_bool (by rw [(show (!((d (to).toNat).isSome)) = true from by rw [h5]; rfl)]; decide)) rfl rfl ?_
   refine O.gskip (t := 40) rfl rfl (no_bool (by rw [(show (!((d (to).toNat).isSome)) = true from by rw [h5]; rfl)]; decide)) rfl rfl ?_
   refine O.gskip (t := 40) rfl rfl (no_bool (by rw [(show (!((d (to).toNat).isSome)) = true from by rw [h5]; rfl)]; decide)) rfl rfl ?_
   refine O.gskip (t := 40) rfl rfl (no_bool (by rw [(show (!((d (to).toNat).isSome)) = true from by rw [h5]; rfl)]; decide)) rfl rfl ?_
   refine O.gskip (t := 40) rfl rfl (no_bool (by rw [(show (!((d (to).toNat).isSome)) = true from by rw [h5]; rfl)]; decide)) rfl rfl ?_
   refine O.gskip (t := 40) rfl rfl (no_bool (by rw [(show (!((d (to).toNat).isSome)) = true from by rw [h5]; rfl)]; decide)) rfl rfl ?_
   refine O.p (Pu.pickT rfl (show (!((d (to).toNat).isSome)) = true from by rw [h5]; rfl) rfl) rfl ?_
   refine O.nil ?_
   refine J.condT rfl rfl ?_
   refine J.region ?_
   refine O.p (Pu.move rfl) rfl ?_
   refine O.p (Pu.move rfl) rfl ?_
   refine O.p (Pu.move rfl) rfl ?_
   refine O.p (Pu.move rfl) rfl ?_
   refine O.p (Pu.build [(0, .int .i64 to), (1, .int .i64 thr), (2, .int .i64 ep)] [.int .i64 to, .int .i64 thr, .int .i64 ep, .int .i64 0] #[(0, 1), (1, 1), (2, 1), (3, 1)] Try.runUnderlying30 Try.zeroValue30 (places30 Try.underlying30) rfl (by kernel_rfl)) rfl ?_
   refine O.p (Pu.build [(0, .bool true), (1, .agg #[.int .i64 to, .int .i64 thr, .int .i64 ep, .int .i64 0])] [.bool true, .int .i64 to, .int .i64 thr, .int .i64 ep, .int .i64 0] #[(0, 1), (1, 4)] Try.runUnderlying70 Try.zeroValue70 (places70 Try.underlying70) rfl (by kernel_rfl)) rfl ?_
   refine O.p (Pu.nilCheck rfl) rfl ?_
   refine O.l0 (Lo.store 0 (vs := [.bool true, .int .i64 to, .int .i64 thr, .int .i64 ep, .int .i64 0]) (Sh.tbC ttl (Sh.upd d to (⟨to, thr, ep, 0⟩ : Kw))) rfl rfl rfl (by exact Try.sizeOf70) rfl rfl rfl (Sh.tb_set5 (to := to) (d := d) (k := (⟨to, thr, ep, 0⟩ : Kw)) (by omega) (by omega)) (Sh.tb_fit (to := to) (i := 0) (n := 5) (by omega) (by omega) (by decide))) ?_
   rintro _ _ rfl
   refine O.nil ?_
   refine J.seq ?_
   refine J.region ?_
   refine O.p (Pu.move rfl) rfl ?_
   refine O.p (Pu.move rfl) rfl ?_
   refine O.l (Lo.call [.int .i64 now, .int .i64 1099511627776] (by exact Try.call28) rfl (bd_Keep now 1099511627776) [] [0] (by decide) rfl [var p (Sh.tbC ttl (Sh.upd d to (⟨to, thr, ep, 0⟩ : Kw))) 73] rfl RoOk.nil) rfl ?_
   rintro _ _ ⟨_, ⟨rfl, rfl⟩, rfl⟩
   refine O.p (Pu.nilCheck rfl) rfl ?_
   refine O.p (Pu.fieldAddr (off' := 2 + (to).toNat * 5 + 1) Try.runUnderlying70 rfl Try.sizeOf30 rfl rfl rfl) rfl ?_
   refine O.p (Pu.fieldAddr (off' := 2 + (to).toNat * 5 + 1 + 3) Try.runUnderlying30 rfl Try.sizeOf3 rfl rfl rfl) rfl ?_
   refine O.l0 (Lo.store 0 (vs := [.int .i64 (Sh.keep now 1099511627776)]) (Sh.tbC ttl (Sh.upd (Sh.upd d to (⟨to, thr, ep, 0⟩ : Kw)) to (Sh.atK (Sh.upd d to (⟨to, thr, ep, 0⟩ : Kw)) to (Sh.keep now 1099511627776)))) rfl rfl rfl (by exact Try.sizeOf3) rfl rfl rfl (Sh.tb_set1 (to := to) (d := (Sh.upd d to (⟨to, thr, ep, 0⟩ : Kw))) (by omega) (by omega) (by rw [Sh.upd_self hto.1]; rfl) (Sh.keep now 1099511627776)) (Sh.tb_fit (to := to) (i := 4) (n := 1) (by omega) (by omega) (by decide))) ?_
   rintro _ _ rfl
   refine O.nil ?_
   refine J.seq ?_
   refine J.region ?_
   refine O.p (Pu.assign rfl) rfl ?_
   refine O.nil ?_
   exact J.ret (Fin.ret (rs := [.tmp 10]) rfl [_] ⟨rfl, trivial⟩ [0] (by decide) [var p (Sh.tbC ttl (Sh.upd (Sh.upd d to (⟨to, thr, ep, 0⟩ : Kw)) to (Sh.atK (Sh.upd d to (⟨to, thr, ep, 0⟩ : Kw)) to (Sh.keep now 1099511627776)))) 73] rfl ⟨_, rfl, (by rw [Sh.lrn_new ‹_› hd]; rfl), (by rw [Sh.lrn_new ‹_› hd]; rw [Sh.upd_upd]; first | (simp only [Sh.atK, Sh.upd_self hto.1, Sh.kw]; rfl) | (simp only [Sh.atK, hkw]; rfl))⟩)

set_option maxRecDepth 100000 in
set_option maxHeartbeats 1000000 in
theorem tb_Get (p : Nat) (ttl : Int) (d : Sh.Ts) (to now : Int) : Tri Try.prog 19 #[.pointer (some ⟨p, 0, none⟩), .int .i64 to, .int .i64 now] [var p (Sh.tbC ttl d) 73] [] (fun v L' => v = .tuple #[.agg #[.int .i64 (((Sh.get d ttl to now).1).to), .int .i64 (((Sh.get d ttl to now).1).thr), .int .i64 (((Sh.get d ttl to now).1).ep), .int .i64 (((Sh.get d ttl to now).1).at_)], .bool (Sh.get d ttl to now).2] ∧ L' = []) := by
 refine Tri.enter (args := [.pointer (some ⟨p, 0, none⟩), .int .i64 to, .int .i64 now]) (body := _) 47 Try.func19 rfl Try.ntmps19 rfl ?_
 intro w0
 refine J.seq ?_
 refine J.region ?_
 refine O.l (Lo.alloc [.int .i64 0, .int .i64 0, .int .i64 0, .int .i64 0] (by exact Try.zeroValue30) rfl) rfl ?_
 rintro _ _ ⟨g1, rfl, rfl⟩
 refine O.p (Pu.assign rfl) rfl ?_
 refine O.nil ?_
 refine J.seq ?_
 refine J.seq ?_
 refine by_bool (Sh.has to) (fun h2 => ?_) (fun h2 => ?_)
 ·
  have hto := Sh.has_iff.1 h2
  refine by_bool ((d (to).toNat).isSome) (fun h3 => ?_) (fun h3 => ?_)
  ·
   obtain ⟨k, hd⟩ : ∃ k, d to.toNat = some k := Option.isSome_iff_exists.1 h3
   have hkw : Sh.kw (d to.toNat) = k := by rw [hd]; rfl
   have hke := congrArg Kw.ep hkw
   have hka := congrArg Kw.at_ hkw
   refine J.drawMix [(0, false), (1, false), (2, false), (3, false), (4, false), (5, false), (6, false), (7, false), (8, false), (9, false), (10, false), (11, false), (12, false), (13, false), (14, false), (15, false), (16, false), (17, false), (18, false), (19, false), (20, false), (21, false), (22, false), (23, false), (24, false), (25, false), (26, false), (27, false), (28, false), (29, false), (30, false)] [] [] Try.mixed (by kernel_rfl) (by decide) rfl ?_
   refine Mx.p rfl (Pu.move rfl) rfl ?_
   refine Mx.p rfl (Pu.move rfl) rfl ?_
   refine Mx.call (vs := [.pointer (some ⟨p, 0, none⟩), .int .i64 to]) (caps := []) rfl (by exact Try.call27) rfl rfl (tb_has p ttl d to) (fun _ _ h => h) (RoOk.ro 0 rfl [] rfl RoOk.nil) rfl ?_
   refine Mx.p rfl (Pu.not rfl) rfl ?_
   refine Mx.p rfl (Pu.move rfl) rfl ?_
   refine Mx.gq (t := 12) rfl rfl rfl (not_of_true h2) rfl (Pu.qt (Pu.move rfl)) rfl ?_
   refine Mx.gq (t := 12) rfl rfl rfl (not_of_true h2) rfl (Pu.qt (Pu.move rfl)) rfl ?_
   refine Mx.gq (t := 12) rfl rfl rfl (not_of_true h2) rfl (Pu.qt (Pu.nilCheck rfl)) rfl ?_
   refine Mx.gq (t := 12) rfl rfl rfl (not_of_true h2) rfl (Pu.qt (Pu.fieldAddr (off' := 2) Try.runUnderlying73 rfl Try.sizeOf71 rfl rfl rfl)) rfl ?_
   refine Mx.gq (t := 12) rfl rfl rfl (not_of_true h2) rfl (Pu.qt (Pu.indexAddrG Try.runUnderlying71 Try.sizeOf70 rfl rfl (by omega) (by omega))) rfl ?_
   refine Mx.gq (t := 12) rfl rfl rfl (not_of_true h2) rfl (Pu.qt (Pu.fieldAddr (off' := 2 + (to).toNat * 5 + 0) Try.runUnderlying70 rfl Try.sizeOf4 rfl rfl rfl)) rfl ?_
   refine Mx.gq (t := 12) rfl rfl rfl (not_of_true h2) rfl (Qt.ld rfl (Cel.roVar 0 rfl) (o := 0) (off := 2 + (to).toNat * 5) (by omega) (Cut.one Try.isAgg4 (Sh.tb_one (i := 0) (by omega) rfl rfl))) rfl ?_
   refine Mx.gq (t := 12) rfl rfl rfl (not_of_true h2) rfl (Pu.qt (Pu.not rfl)) rfl ?_
   refine Mx.p rfl (Pu.pickF rfl (not_of_true h2) rfl) rfl ?_
   refine Mx.p rfl (Pu.move rfl) rfl ?_
   refine Mx.gq (t := 22) rfl rfl rfl (show (!((d (to).toNat).isSome)) = false from by rw [h3]; rfl) rfl (Pu.qt (Pu.move rfl)) rfl ?_
   refine Mx.gq (t := 22) rfl rfl rfl (show (!((d (to).toNat).isSome)) = false from by rw [h3]; rfl) rfl (Pu.qt (Pu.move rfl)) rfl ?_
   refine Mx.gq (t := 22) rfl rfl rfl (show (!((d (to).toNat).isSome)) = false from by rw [h3]; rfl) rfl (Pu.qt (Pu.move rfl)) rfl ?_
   refine Mx.gq (t := 22) rfl rfl rfl (show (!((d (to).toNat).isSome)) = false from by rw [h3]; rfl) rfl (Pu.qt (Pu.nilCheck rfl)) rfl ?_
   refine Mx.gq (t := 22) rfl rfl rfl (show (!((d (to).toNat).isSome)) = false from by rw [h3]; rfl) rfl (Pu.qt (Pu.fieldAddr (off' := 2) Try.runUnderlying73 rfl Try.sizeOf71 rfl rfl rfl)) rfl ?_
   refine Mx.gq (t := 22) rfl rfl rfl (show (!((d (to).toNat).isSome)) = false from by rw [h3]; rfl) rfl (Pu.qt (Pu.indexAddrG Try.runUnderlying71 Try.sizeOf70 rfl rfl (by omega) (by omega))) rfl ?_
   refine Mx.gq (t := 22) rfl rfl rfl (show (!((d (to).toNat).isSome)) = false from by rw [h3]; rfl) rfl (Pu.qt (Pu.fieldAddr (off' := 2 + (to).toNat * 5 + 1) Try.runUnderlying70 rfl Try.sizeOf30 rfl rfl rfl)) rfl ?_
   refine Mx.gq (t := 22) rfl rfl rfl (show (!((d (to).toNat).isSome)) = false from by rw [h3]; rfl) rfl (Pu.qt (Pu.fieldAddr (off' := 2 + (to).toNat * 5 + 1 + 3) Try.runUnderlying30 rfl Try.sizeOf3 rfl rfl rfl)) rfl ?_
   refine Mx.gq (t := 22) rfl rfl rfl (show (!((d (to).toNat).isSome)) = false from by rw [h3]; rfl) rfl (Qt.ld rfl (Cel.roVar 0 rfl) (o := 0) (off := 2 + (to).toNat * 5 + 4) (by omega) (Cut.one Try.isAgg3 (Sh.tb_one (i := 4) (by omega) rfl rfl))) rfl ?_
   refine Mx.gcall (vs := [.int .i64 now, .int .i64 ((Sh.kw (d (to).toNat)).at_)]) (caps := []) (t := 22) rfl rfl rfl (show (!((d (to).toNat).isSome)) = false from by rw [h3]; rfl) rfl (by exact Try.call31) rfl rfl (bd_Left now ((Sh.kw (d (to).toNat)).at_)) (fun _ _ h => h) RoOk.nil rfl ?_
   refine Mx.gq (t := 22) rfl rfl rfl (show (!((d (to).toNat).isSome)) = false from by rw [h3]; rfl) rfl (Pu.qt (Pu.move rfl)) rfl ?_
   refine Mx.gq (t := 22) rfl rfl rfl (show (!((d (to).toNat).isSome)) = false from by rw [h3]; rfl) rfl (Pu.qt (Pu.nilCheck rfl)) rfl ?_
   refine Mx.gq (t := 22) rfl rfl rfl (show (!((d (to).toNat).isSome)) = false from by rw [h3]; rfl) rfl (Pu.qt (Pu.fieldAddr (off' := 1) Try.runUnderlying73 rfl Try.sizeOf3 rfl rfl rfl)) rfl ?_
   refine Mx.gq (t := 22) rfl rfl rfl (show (!((d (to).toNat).isSome)) = false from by rw [h3]; rfl) rfl (Qt.ld rfl (Cel.roVar 0 rfl) (o := 0) (off := 1) rfl (Cut.one Try.isAgg3 rfl)) rfl ?_
   refine Mx.gq (t := 22) rfl rfl rfl (show (!((d (to).toNat).isSome)) = false from by rw [h3]; rfl) rfl (Pu.qt (Pu.gtr rfl rfl)) rfl ?_
   refine Mx.p rfl (Pu.pickF rfl (show (!((d (to).toNat).isSome)) = false from by rw [h3]; rfl) rfl) rfl ?_
   refine Mx.nil ?_
   refine J.cond rfl (fun h4 => ?_) (fun h4 => ?_)
   ·
    have p5 := of_decide_eq_true h4
    refine J.seq ?_
    refine J.region ?_
    refine O.p (Pu.build [] [.int .i64 0, .int .i64 0, .int .i64 0, .int .i64 0] #[(0, 1), (1, 1), (2, 1), (3, 1)] Try.runUnderlying30 Try.zeroValue30 (places30 Try.underlying30) rfl (by kernel_rfl)) rfl ?_
    refine O.l0 (Lo.store 0 (vs := [.int .i64 0, .int .i64 0, .int .i64 0, .int .i64 0]) [.int .i64 0, .int .i64 0, .int .i64 0, .int .i64 0] rfl rfl rfl (by exact Try.sizeOf30) rfl rfl rfl rfl rfl) ?_
    rintro _ _ rfl
    refine O.p (Pu.assign rfl) rfl ?_
    refine O.nil ?_
    exact J.ret (Fin.ret (rs := [.cell 6 30, .tmp 7]) rfl [_, _] ⟨⟨_, _, 0, 0, _, rfl, (Cel.var 0 rfl), rfl, (Cut.agg [.int .i64 0, .int .i64 0, .int .i64 0, .int .i64 0] Try.isAgg30 Try.sizeOf30 rfl rfl)⟩, rfl, trivial⟩ [] (by decide) [] rfl ⟨(by rw [Sh.get_old hd (by rw [← hka]; omega)]; first | rfl | (simp only [vOf, hkw]; done)), rfl⟩)
   ·
    have p6 := of_decide_eq_false h4
    refine J.skip ?_
    refine J.seq ?_
    refine J.region ?_
    refine O.p (Pu.move rfl) rfl ?_
    refine O.p (Pu.move rfl) rfl ?_
    refine O.p (Pu.nilCheck rfl) rfl ?_
    refine O.p (Pu.fieldAddr (off' := 2) Try.runUnderlying73 rfl Try.sizeOf71 rfl rfl rfl) rfl ?_
    refine O.p (Pu.indexAddrG Try.runUnderlying71 Try.sizeOf70 rfl rfl (by omega) (by omega)) rfl ?_
    refine O.p (Pu.fieldAddr (off' := 2 + (to).toNat * 5 + 1) Try.runUnderlying70 rfl Try.sizeOf30 rfl rfl rfl) rfl ?_
    refine O.q (Qt.ld rfl (Cel.roVar 0 rfl) (o := 0) (off := 2 + (to).toNat * 5 + 1) (by omega) (Cut.agg [.int .i64 ((Sh.kw (d (to).toNat)).to), .int .i64 ((Sh.kw (d (to).toNat)).thr), .int .i64 ((Sh.kw (d (to).toNat)).ep), .int .i64 ((Sh.kw (d (to).toNat)).at_)] Try.isAgg30 Try.sizeOf30 (Sh.tb_kw (by omega) rfl) rfl)) rfl ?_
    refine O.l0 (Lo.store 0 (vs := [.int .i64 ((Sh.kw (d (to).toNat)).to), .int .i64 ((Sh.kw (d (to).toNat)).thr), .int .i64 ((Sh.kw (d (to).toNat)).ep), .int .i64 ((Sh.kw (d (to).toNat)).at_)]) [.int .i64 ((Sh.kw (d (to).toNat)).to), .int .i64 ((Sh.kw (d (to).toNat)).thr), .int .i64 ((Sh.kw (d (to).toNat)).ep), .int .i64 ((Sh.kw (d (to).toNat)).at_)] rfl rfl rfl (by exact Try.sizeOf30) rfl rfl rfl rfl rfl) ?_
    rintro _ _ rfl
    refine O.p (Pu.assign rfl) rfl ?_
    refine O.nil ?_
    exact J.ret (Fin.ret (rs := [.cell 6 30, .tmp 7]) rfl [_, _] ⟨⟨_, _, 0, 0, _, rfl, (Cel.var 0 rfl), rfl, (Cut.agg [.int .i64 ((Sh.kw (d (to).toNat)).to), .int .i64 ((Sh.kw (d (to).toNat)).thr), .int .i64 ((Sh.kw (d (to).toNat)).ep), .int .i64 ((Sh.kw (d (to).toNat)).at_)] Try.isAgg30 Try.sizeOf30 rfl rfl)⟩, rfl, trivial⟩ [] (by decide) [] rfl ⟨(by rw [Sh.get_yes ‹_› hd (by rw [← hka]; omega)]; first | rfl | (simp only [vOf, hkw]; done)), rfl⟩)
  ·
   have hd : d to.toNat = none := by simpa using h3
   have hkw : Sh.kw (d to.toNat) = Sh.zeroK := by rw [hd]; rfl
   refine J.drawMix [(0, false), (1, false), (2, false), (3, false), (4, false), (5, false), (6, false), (7, false), (8, false), (9, false), (10, false), (11, false), (12, false), (13, false), (14, false), (15, false), (16, false), (17, false), (18, false), (19, false), (20, false), (21, false), (22, false), (23, false), (24, false), (25, false), (26, false), (27, false), (28, false), (29, false), (30, false)] [] [] Try.mixed (by kernel_rfl) (by decide) rfl ?_
   refine Mx.p rfl (Pu.move rfl) rfl ?_
   refine Mx.p rfl (Pu.move rfl) rfl ?_
   refine Mx.call (vs := [.pointer (some ⟨p, 0, none⟩), .int .i64 to]) (caps := []) rfl (by exact Try.call27) rfl rfl (tb_has p ttl d to) (fun _ _ h => h) (RoOk.ro 0 rfl [] rfl RoOk.nil) rfl ?_
   refine Mx.p rfl (Pu.not rfl) rfl ?_
   refine Mx.p rfl (Pu.move rfl) rfl ?_
   refine Mx.gq (t := 12) rfl rfl rfl (not_of_true h2) rfl (Pu.qt (Pu.move rfl)) rfl ?_
   refine Mx.gq (t := 12) rfl rfl rfl (not_of_true h2) rfl (Pu.qt (Pu.move rfl)) rfl ?_
   refine Mx.gq (t := 12) rfl rfl rfl (not_of_true h2) rfl (Pu.qt (Pu.nilCheck rfl)) rfl ?_
   refine Mx.gq (t := 12) rfl rfl rfl (not_of_true h2) rfl (Pu.qt (Pu.fieldAddr (off' := 2) Try.runUnderlying73 rfl Try.sizeOf71 rfl rfl rfl)) rfl ?_
   refine Mx.gq (t := 12) rfl rfl rfl (not_of_true h2) rfl (Pu.qt (Pu.indexAddrG Try.runUnderlying71 Try.sizeOf70 rfl rfl (by omega) (by omega))) rfl ?_
   refine Mx.gq (t := 12) rfl rfl rfl (not_of_true h2) rfl (Pu.qt (Pu.fieldAddr (off' := 2 + (to).toNat * 5 + 0) Try.runUnderlying70 rfl Try.sizeOf4 rfl rfl rfl)) rfl ?_
   refine Mx.gq (t := 12) rfl rfl rfl (not_of_true h2) rfl (Qt.ld rfl (Cel.roVar 0 rfl) (o := 0) (off := 2 + (to).toNat * 5) (by omega) (Cut.one Try.isAgg4 (Sh.tb_one (i := 0) (by omega) rfl rfl))) rfl ?_
   refine Mx.gq (t := 12) rfl rfl rfl (not_of_true h2) rfl (Pu.qt (Pu.not rfl)) rfl ?_
   refine Mx.p rfl (Pu.pickF rfl (not_of_true h2) rfl) rfl ?_
   refine Mx.p rfl (Pu.move rfl) rfl ?_
   refine Mx.gskip (t := 22) rfl rfl rfl (no_bool (by rw [(show (!((d (to).toNat).isSome)) = true from by rw [h3]; rfl)]; decide)) rfl rfl ?_
   refine Mx.gskip (t := 22) rfl rfl rfl (no_bool (by rw [(show (!((d (to).toNat).isSome)) = true from by rw [h3]; rfl)]; decide)) rfl rfl ?_
   refine Mx.gskip (t := 22) rfl rfl rfl (no_bool (by rw [(show (!((d (to).toNat).isSome)) = true from by rw [h3]; rfl)]; decide)) rfl rfl ?_
   refine Mx.gskip (t := 22) rfl rfl rfl (no_bool (by rw [(show (!((d (to).toNat).isSome)) = true from by rw [h3]; rfl)]; decide)) rfl rfl ?_
   refine Mx.gskip (t := 22) rfl rfl rfl (no_bool (by rw [(show (!((d (to).toNat).isSome)) = true from by rw [h3]; rfl)]; decide)) rfl rfl ?_
   refine Mx.gskip (t := 22) rfl rfl rfl (no_bool (by rw [(show (!((d (to).toNat).isSome)) = true from by rw [h3]; rfl)]; decide)) rfl rfl ?_
   refine Mx.gskip (t := 22) rfl rfl rfl (no_bool (by rw [(show (!((d (to).toNat).isSome)) = true from by rw [h3]; rfl)]; decide)) rfl rfl ?_
   refine Mx.gskip (t := 22) rfl rfl rfl (no_bool (by rw [(show (!((d (to).toNat).isSome)) = true from by rw [h3]; rfl)]; decide)) rfl rfl ?_
   refine Mx.gskip (t := 22) rfl rfl rfl (no_bool (by rw [(show (!((d (to).toNat).isSome)) = true from by rw [h3]; rfl)]; decide)) rfl rfl ?_
   refine Mx.gskip (t := 22) rfl rfl rfl (no_bool (by rw [(show (!((d (to).toNat).isSome)) = true from by rw [h3]; rfl)]; decide)) rfl rfl ?_
   refine Mx.gskip (t := 22) rfl rfl rfl (no_bool (by rw [(show (!((d (to).toNat).isSome)) = true from by rw [h3]; rfl)]; decide)) rfl rfl ?_
   refine Mx.gskip (t := 22) rfl rfl rfl (no_bool (by rw [(show (!((d (to).toNat).isSome)) = true from by rw [h3]; rfl)]; decide)) rfl rfl ?_
   refine Mx.gskip (t := 22) rfl rfl rfl (no_bool (by rw [(show (!((d (to).toNat).isSome)) = true from by rw [h3]; rfl)]; decide)) rfl rfl ?_
   refine Mx.gskip (t := 22) rfl rfl rfl (no_bool (by rw [(show (!((d (to).toNat).isSome)) = true from by rw [h3]; rfl)]; decide)) rfl rfl ?_
   refine Mx.gskip (t := 22) rfl rfl rfl (no_bool (by rw [(show (!((d (to).toNat).isSome)) = true from by rw [h3]; rfl)]; decide)) rfl rfl ?_
   refine Mx.p rfl (Pu.pickT rfl (show (!((d (to).toNat).isSome)) = true from by rw [h3]; rfl) rfl) rfl ?_
   refine Mx.nil ?_
   refine J.condT rfl rfl ?_
   refine J.seq ?_
   refine J.region ?_
   refine O.p (Pu.build [] [.int .i64 0, .int .i64 0, .int .i64 0, .int .i64 0] #[(0, 1), (1, 1), (2, 1), (3, 1)] Try.runUnderlying30 Try.zeroValue30 (places30 Try.underlying30) rfl (by kernel_rfl)) rfl ?_
   refine O.l0 (Lo.store 0 (vs := [.int .i64 0, .int .i64 0, .int .i64 0, .int .i64 0]) [.int .i64 0, .int .i64 0, .int .i64 0, .int .i64 0] rfl rfl rfl (by exact Try.sizeOf30) rfl rfl rfl rfl rfl) ?_
   rintro _ _ rfl
   refine O.p (Pu.assign rfl) rfl ?_
   refine O.nil ?_
   exact J.ret (Fin.ret (rs := [.cell 6 30, .tmp 7]) rfl [_, _] ⟨⟨_, _, 0, 0, _, rfl, (Cel.var 0 rfl), rfl, (Cut.agg [.int .i64 0, .int .i64 0, .int .i64 0, .int .i64 0] Try.isAgg30 Try.sizeOf30 rfl rfl)⟩, rfl, trivial⟩ [] (by decide) [] rfl ⟨(by rw [Sh.get_none hd]; first | rfl | (simp only [vOf, hkw]; done)), rfl⟩)
 ·
  refine J.drawMix [(0, false), (1, false), (2, false), (3, false), (4, false), (5, false), (6, false), (7, false), (8, false), (9, false), (10, false), (11, false), (12, false), (13, false), (14, false), (15, false), (16, false), (17, false), (18, false), (19, false), (20, false), (21, false), (22, false), (23, false), (24, false), (25, false), (26, false), (27, false), (28, false), (29, false), (30, false)] [] [] Try.mixed (by kernel_rfl) (by decide) rfl ?_
  refine Mx.p rfl (Pu.move rfl) rfl ?_
  refine Mx.p rfl (Pu.move rfl) rfl ?_
  refine Mx.call (vs := [.pointer (some ⟨p, 0, none⟩), .int .i64 to]) (caps := []) rfl (by exact Try.call27) rfl rfl (tb_has p ttl d to) (fun _ _ h => h) (RoOk.ro 0 rfl [] rfl RoOk.nil) rfl ?_
  refine Mx.p rfl (Pu.not rfl) rfl ?_
  refine Mx.p rfl (Pu.move rfl) rfl ?_
  refine Mx.gskip (t := 12) rfl rfl rfl (no_bool (by rw [(not_of_false h2)]; decide)) rfl rfl ?_
  refine Mx.gskip (t := 12) rfl rfl rfl (no_bool (by rw [(not_of_false h2)]; decide)) rfl rfl ?_
  refine Mx.gskip (t := 12) rfl rfl rfl (no_bool (by rw [(not_of_false h2)]; decide)) rfl rfl ?_
  refine Mx.gskip (t := 12) rfl rfl rfl (no_bool (by rw [(not_of_false h2)]; decide)) rfl rfl ?_
  refine Mx.gskip (t := 12) rfl rfl rfl (no_bool (by rw [(not_of_false h2)]; decide)) rfl rfl ?_
  refine Mx.gskip (t := 12) rfl rfl rfl (no_bool (by rw [(not_of_false h2)]; decide)) rfl rfl ?_
  refine Mx.gskip (t := 12) rfl rfl rfl (no_bool (by rw [(not_of_false h2)]; decide)) rfl rfl ?_
  refine Mx.gskip (t := 12) rfl rfl rfl (no_bool (by rw [(not_of_false h2)]; decide)) rfl rfl ?_
  refine Mx.p rfl (Pu.pickT rfl (not_of_false h2) rfl) rfl ?_
  refine Mx.p rfl (Pu.move rfl) rfl ?_
  refine Mx.gskip (t := 22) rfl rfl rfl (no_bool (by decide)) rfl rfl ?_
  refine Mx.gskip (t := 22) rfl rfl rfl (no_bool (by decide)) rfl rfl ?_
  refine Mx.gskip (t := 22) rfl rfl rfl (no_bool (by decide)) rfl rfl ?_
  refine Mx.gskip (t := 22) rfl rfl rfl (no_bool (by decide)) rfl rfl ?_
  refine Mx.gskip (t := 22) rfl rfl rfl (no_bool (by decide)) rfl rfl ?_
  refine Mx.gskip (t := 22) rfl rfl rfl (no_bool (by decide)) rfl rfl ?_
  refine Mx.gskip (t := 22) rfl rfl rfl (no_bool (by decide)) rfl rfl ?_
  refine Mx.gskip (t := 22) rfl rfl rfl (no_bool (by decide)) rfl rfl ?_
  refine Mx.gskip (t := 22) rfl rfl rfl (no_bool (by decide)) rfl rfl ?_
  refine Mx.gskip (t := 22) rfl rfl rfl (no_bool (by decide)) rfl rfl ?_
  refine Mx.gskip (t := 22) rfl rfl rfl (no_bool (by decide)) rfl rfl ?_
  refine Mx.gskip (t := 22) rfl rfl rfl (no_bool (by decide)) rfl rfl ?_
  refine Mx.gskip (t := 22) rfl rfl rfl (no_bool (by decide)) rfl rfl ?_
  refine Mx.gskip (t := 22) rfl rfl rfl (no_bool (by decide)) rfl rfl ?_
  refine Mx.gskip (t := 22) rfl rfl rfl (no_bool (by decide)) rfl rfl ?_
  refine Mx.p rfl (Pu.pickT rfl rfl rfl) rfl ?_
  refine Mx.nil ?_
  refine J.condT rfl rfl ?_
  refine J.seq ?_
  refine J.region ?_
  refine O.p (Pu.build [] [.int .i64 0, .int .i64 0, .int .i64 0, .int .i64 0] #[(0, 1), (1, 1), (2, 1), (3, 1)] Try.runUnderlying30 Try.zeroValue30 (places30 Try.underlying30) rfl (by kernel_rfl)) rfl ?_
  refine O.l0 (Lo.store 0 (vs := [.int .i64 0, .int .i64 0, .int .i64 0, .int .i64 0]) [.int .i64 0, .int .i64 0, .int .i64 0, .int .i64 0] rfl rfl rfl (by exact Try.sizeOf30) rfl rfl rfl rfl rfl) ?_
  rintro _ _ rfl
  refine O.p (Pu.assign rfl) rfl ?_
  refine O.nil ?_
  exact J.ret (Fin.ret (rs := [.cell 6 30, .tmp 7]) rfl [_, _] ⟨⟨_, _, 0, 0, _, rfl, (Cel.var 0 rfl), rfl, (Cut.agg [.int .i64 0, .int .i64 0, .int .i64 0, .int .i64 0] Try.isAgg30 Try.sizeOf30 rfl rfl)⟩, rfl, trivial⟩ [] (by decide) [] rfl ⟨(by rw [Sh.get_out ‹_›]; first | rfl | (simp only [vOf, hkw]; done)), rfl⟩)

set_option maxRecDepth 100000 in
theorem tb_Clear (p : Nat) (ttl : Int) (d : Sh.Ts) : Tri Try.prog 18 #[.pointer (some ⟨p, 0, none⟩)] [] [var p (Sh.tbC ttl d) 73] (fun v L' => v = .tuple #[] ∧ L' = [var p (Sh.tbC ttl Sh.nil) 73]) := by
 refine Tri.enter (args := [.pointer (some ⟨p, 0, none⟩)]) (body := _) 8 Try.func18 rfl Try.ntmps18 rfl ?_
 intro w0
 refine J.seq ?_
 refine J.region ?_
 refine O.p (Pu.move rfl) rfl ?_
 refine O.p (Pu.ptrNe Try.underlying47 rfl) rfl ?_
 refine O.nil ?_
 refine J.condT rfl rfl ?_
 refine J.region ?_
 refine O.p (Pu.move rfl) rfl ?_
 refine O.p (Pu.buildA [] [.bool false, .int .i64 0, .int .i64 0, .int .i64 0, .int .i64 0, .bool false, .int .i64 0, .int .i64 0, .int .i64 0, .int .i64 0, .bool false, .int .i64 0, .int .i64 0, .int .i64 0, .int .i64 0, .bool false, .int .i64 0, .int .i64 0, .int .i64 0, .int .i64 0, .bool false, .int .i64 0, .int .i64 0, .int .i64 0, .int .i64 0, .bool false, .int .i64 0, .int .i64 0, .int .i64 0, .int .i64 0, .bool false, .int .i64 0, .int .i64 0, .int .i64 0, .int .i64 0, .bool false, .int .i64 0, .int .i64 0, .int .i64 0, .int .i64 0] Try.runUnderlying71 Try.zeroValue71 Try.sizeOf70 rfl (by kernel_rfl)) rfl ?_
 refine O.p (Pu.nilCheck rfl) rfl ?_
 refine O.p (Pu.fieldAddr (off' := 2) Try.runUnderlying73 rfl Try.sizeOf71 rfl rfl rfl) rfl ?_
 refine O.l0 (Lo.store 0 (vs := [.bool false, .int .i64 0, .int .i64 0, .int .i64 0, .int .i64 0, .bool false, .int .i64 0, .int .i64 0, .int .i64 0, .int .i64 0, .bool false, .int .i64 0, .int .i64 0, .int .i64 0, .int .i64 0, .bool false, .int .i64 0, .int .i64 0, .int .i64 0, .int .i64 0, .bool false, .int .i64 0, .int .i64 0, .int .i64 0, .int .i64 0, .bool false, .int .i64 0, .int .i64 0, .int .i64 0, .int .i64 0, .bool false, .int .i64 0, .int .i64 0, .int .i64 0, .int .i64 0, .bool false, .int .i64 0, .int .i64 0, .int .i64 0, .int .i64 0]) (Sh.tbC ttl Sh.nil) rfl rfl rfl (by exact Try.sizeOf71) rfl rfl rfl rfl rfl) ?_
 rintro _ _ rfl
 refine O.nil ?_
 exact J.done (Fin.ret (rs := []) rfl [] trivial [0] (by decide) [var p (Sh.tbC ttl Sh.nil) 73] rfl ⟨rfl, rfl⟩)

end Go.Proofs.Ytdnalilglacjbaa
