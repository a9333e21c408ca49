/-
  Walks, printed by a program of mine (lk.py): each function meets its contract.
-/
import Derived.KernelRfl
import Derived.Test.YtdnalilglacjbaaSX4
namespace Go.Proofs.Ytdnalilglacjbaa
open Go Go.LK
set_option linter.unusedSimpArgs false

set_option maxRecDepth 100000 in
theorem sd_wrong1 (d : Kw) (g : Nat) (c : Kw) : Tri Try.prog 37 #[.agg #[.int .i64 d.to, .int .i64 d.thr, .int .i64 d.ep, .int .i64 d.at_], .pointer (some ⟨g, 0, none⟩)] [var g [.int .i64 c.to, .int .i64 c.thr, .int .i64 c.ep, .int .i64 c.at_] 30] [] (fun v L' => v = .bool (decide (d.thr = c.thr) && decide (d.ep = c.ep)) ∧ L' = []) := by
 refine Tri.enter (args := [.agg #[.int .i64 d.to, .int .i64 d.thr, .int .i64 d.ep, .int .i64 d.at_], .pointer (some ⟨g, 0, none⟩)]) (body := _) 16 Try.func37 rfl Try.ntmps37 rfl ?_
 intro w0
 refine J.seq ?_
 refine J.region ?_
 refine O.l (Lo.box [.int .i64 d.to, .int .i64 d.thr, .int .i64 d.ep, .int .i64 d.at_] rfl rfl) rfl ?_
 rintro _ _ ⟨g1, rfl, rfl⟩
 refine O.p (Pu.assign rfl) rfl ?_
 refine O.nil ?_
 refine J.seq ?_
 refine J.region ?_
 refine O.p (Pu.fieldAddr (off' := 1) Try.runUnderlying30 rfl Try.sizeOf3 rfl rfl rfl) rfl ?_
 refine O.q (Qt.ld rfl (Cel.var 0 rfl) (o := 0) (off := 1) rfl (Cut.one Try.isAgg3 rfl)) rfl ?_
 refine O.p (Pu.fieldAddr (off' := 1) Try.runUnderlying30 rfl Try.sizeOf3 rfl rfl rfl) rfl ?_
 refine O.q (Qt.ld rfl (Cel.roVar 0 rfl) (o := 0) (off := 1) rfl (Cut.one Try.isAgg3 rfl)) rfl ?_
 refine O.p (Pu.eql rfl rfl) rfl ?_
 refine O.p (Pu.move rfl) rfl ?_
 refine by_bool (decide (d.thr = c.thr)) (fun h2 => ?_) (fun h2 => ?_)
 ·
  have p3 := of_decide_eq_true h2
  refine O.gq (t := 9) rfl rfl h2 rfl (Pu.qt (Pu.fieldAddr (off' := 2) Try.runUnderlying30 rfl Try.sizeOf3 rfl rfl rfl)) rfl ?_
  refine O.gq (t := 9) rfl rfl h2 rfl (Qt.ld rfl (Cel.var 0 rfl) (o := 0) (off := 2) rfl (Cut.one Try.isAgg3 rfl)) rfl ?_
  refine O.gq (t := 9) rfl rfl h2 rfl (Pu.qt (Pu.fieldAddr (off' := 2) Try.runUnderlying30 rfl Try.sizeOf3 rfl rfl rfl)) rfl ?_
  refine O.gq (t := 9) rfl rfl h2 rfl (Qt.ld rfl (Cel.roVar 0 rfl) (o := 0) (off := 2) rfl (Cut.one Try.isAgg3 rfl)) rfl ?_
  refine O.gq (t := 9) rfl rfl h2 rfl (Pu.qt (Pu.eql rfl rfl)) rfl ?_
  refine O.p (Pu.pickT rfl h2 rfl) rfl ?_
  refine O.p (Pu.assign rfl) rfl ?_
  refine O.nil ?_
  exact J.ret (Fin.ret (rs := [.tmp 3]) rfl [_] ⟨rfl, trivial⟩ [] (by decide) [] rfl ⟨(by simp [vOf, *]), rfl⟩)
 ·
  have p4 := of_decide_eq_false h2
  refine O.gskip (t := 9) rfl rfl (no_bool (by rw [h2]; decide)) rfl rfl ?_
  refine O.gskip (t := 9) rfl rfl (no_bool (by rw [h2]; decide)) rfl rfl ?_
  refine O.gskip (t := 9) rfl rfl (no_bool (by rw [h2]; decide)) rfl rfl ?_
  refine O.gskip (t := 9) rfl rfl (no_bool (by rw [h2]; decide)) rfl rfl ?_
  refine O.gskip (t := 9) rfl rfl (no_bool (by rw [h2]; decide)) rfl rfl ?_
  refine O.p (Pu.pickF rfl h2 rfl) rfl ?_
  refine O.p (Pu.assign rfl) rfl ?_
  refine O.nil ?_
  exact J.ret (Fin.ret (rs := [.tmp 3]) rfl [_] ⟨rfl, trivial⟩ [] (by decide) [] rfl ⟨(by simp [vOf, *]), rfl⟩)

set_option maxRecDepth 100000 in
theorem kw_IndexFunc (fid : Nat) (caps : List Value) (p : Kw → Bool) (RoF : List Sp) (lv : Value) (l : List Kw) (hc : ∀ args w, (callFunc fid args).run Try.prog w = .ok (.enter fid args) w) (hF : ∀ e : Kw, Tri Try.prog fid (([.agg (Kw.cells e).toArray] : List Value) ++ caps).toArray RoF [] (fun v L' => v = .bool (p e) ∧ L' = [])) (hl : l.length ≤ 100000) : Tri Try.prog 42 #[lv, (.func (.func fid) #[] caps.toArray)] (rd lv 4 (l.map Kw.cells) :: RoF) [] (fun v L' => v = .int .i64 (Sh.idx p l) ∧ L' = []) := by
 refine Tri.enter (args := [lv, (.func (.func fid) #[] caps.toArray)]) (body := _) 19 Try.func42 rfl Try.ntmps42 rfl ?_
 intro w0
 refine J.seq ?_
 refine J.region ?_
 refine O.p (Pu.assign rfl) rfl ?_
 refine O.nil ?_
 refine J.seq ?_
 refine J.seq ?_
 refine J.region ?_
 refine O.p (Pu.move rfl) rfl ?_
 refine O.q (Qt.lenM Try.runUnderlying38 rfl (Src.ro 0 rfl)) rfl ?_
 refine O.p (Pu.move rfl) rfl ?_
 refine O.nil ?_
 refine J.block ?_
 refine J.loop (X := Nat) (fun ξ => ξ ≤ l.length ∧ ∀ j x, j < ξ → l[j]? = some x → p x = false) (fun ξ => [(0, lv), (1, (.func (.func fid) #[] caps.toArray)), (7, .int .i64 (l.length : Int)), (8, .int .i64 (ξ : Int))]) (fun ξ => []) (fun ξ => l.length - ξ) 0 (show 0 ≤ l.length ∧ ∀ j x, j < 0 → l[j]? = some x → p x = false from ⟨by omega, fun j x h => by omega⟩) ⟨rfl, rfl, rfl, (congrArg (fun z => some (Value.int .i64 z)) (by first | rfl | omega : (0 : Int) = (0 : Int))), trivial⟩ [] (by decide) rfl ?_
 rintro k hq1
 obtain ⟨hk, hno⟩ : k ≤ l.length ∧ ∀ j x, j < k → l[j]? = some x → p x = false := hq1
 show J _ _ [(0, lv), (1, (.func (.func fid) #[] caps.toArray)), (7, .int .i64 (l.length : Int)), (8, .int .i64 (k : Int))] []
 refine J.seq ?_
 refine J.region ?_
 refine O.p (Pu.lss rfl rfl) rfl ?_
 refine O.nil ?_
 refine J.seq ?_
 refine J.cond rfl (fun h2 => ?_) (fun h2 => ?_)
 ·
  have p3 := of_decide_eq_true h2
  refine J.skip ?_
  refine J.seq ?_
  refine J.block ?_
  refine J.seq ?_
  refine J.region ?_
  refine O.p (Pu.move rfl) rfl ?_
  refine O.p (Pu.assign rfl) rfl ?_
  refine O.nil ?_
  refine J.seq ?_
  refine J.region ?_
  refine O.p (Pu.move rfl) rfl ?_
  refine O.p (Pu.move rfl) rfl ?_
  refine O.p (Pu.move rfl) rfl ?_
  obtain ⟨e4, he4⟩ : ∃ x_, l[k]? = some x_ := ⟨_, List.getElem?_eq_getElem (by first | omega | (simp only [List.length_append, List.length_cons, List.length_nil, List.length_set]; omega))⟩
  refine O.q (Qt.idxM Try.runUnderlying38 Try.sizeOf30 rfl (Src.ro 0 rfl) rfl (by first | omega | (simp only [List.length_append, List.length_cons, List.length_nil, List.length_set]; omega)) (by first | omega | (simp only [List.length_append, List.length_cons, List.length_nil, List.length_set]; omega))) rfl ?_
  refine O.q (Qt.ld rfl (Cel.eltM (Src.ro 0 rfl) he4) (o := (voff lv + k * 4)) (off := 0) (by omega) (Cut.agg [.int .i64 e4.to, .int .i64 e4.thr, .int .i64 e4.ep, .int .i64 e4.at_] Try.isAgg30 Try.sizeOf30 rfl rfl)) rfl ?_
  refine O.l (Lo.callV (vs := [.agg #[.int .i64 e4.to, .int .i64 e4.thr, .int .i64 e4.ep, .int .i64 e4.at_]]) (caps := caps) hc rfl rfl (hF e4) [] [] (by decide) rfl [] rfl (RoOk.sub (fun _ hA => List.mem_cons_of_mem _ hA) [] rfl)) rfl ?_
  rintro _ _ ⟨_, ⟨rfl, rfl⟩, rfl⟩
  refine O.nil ?_
  refine J.cond rfl (fun h6 => ?_) (fun h6 => ?_)
  ·
   refine J.seq ?_
   refine J.region ?_
   refine O.p (Pu.move rfl) rfl ?_
   refine O.p (Pu.assign rfl) rfl ?_
   refine O.nil ?_
   exact J.ret (Fin.ret (rs := [.tmp 4]) rfl [_] ⟨rfl, trivial⟩ [] (by decide) [] rfl ⟨(by rw [Sh.idx_at hno he4 ‹_›]; rfl), rfl⟩)
  ·
   refine J.skip ?_
   refine J.blk ?_
   refine J.region ?_
   refine O.p (Pu.add' rfl rfl (by first | omega | (simp only [List.length_append, List.length_cons, List.length_nil, List.length_set]; omega))) rfl ?_
   refine O.p (Pu.move rfl) rfl ?_
   refine O.nil ?_
   exact J.lp (k + 1) (show (k + 1) ≤ l.length ∧ ∀ j x, j < (k + 1) → l[j]? = some x → p x = false from ⟨by omega, none_step hno he4 ‹_›⟩) (show l.length - (k + 1) < l.length - k from (by first | omega | (simp only [List.length_append, List.length_cons, List.length_nil, List.length_set]; omega))) ⟨rfl, rfl, rfl, (congrArg (fun z => some (Value.int .i64 z)) (by first | rfl | omega : ((k : Int) + 1 : Int) = ((k + 1) : Int))), trivial⟩ [] (by decide) rfl
 ·
  have p7 := of_decide_eq_false h2
  refine J.exit _ rfl ?_
  refine J.seq ?_
  refine J.region ?_
  refine O.p (Pu.assign rfl) rfl ?_
  refine O.nil ?_
  exact J.ret (Fin.ret (rs := [.tmp 4]) rfl [_] ⟨rfl, trivial⟩ [] (by decide) [] rfl ⟨(by rw [Sh.idx_no hno (by omega)]; rfl), rfl⟩)

set_option maxRecDepth 100000 in
theorem kw_ContainsFunc (fid : Nat) (caps : List Value) (p : Kw → Bool) (RoF : List Sp) (lv : Value) (l : List Kw) (hc : ∀ args w, (callFunc fid args).run Try.prog w = .ok (.enter fid args) w) (hF : ∀ e : Kw, Tri Try.prog fid (([.agg (Kw.cells e).toArray] : List Value) ++ caps).toArray RoF [] (fun v L' => v = .bool (p e) ∧ L' = [])) (hl : l.length ≤ 100000) : Tri Try.prog 36 #[lv, (.func (.func fid) #[] caps.toArray)] (rd lv 4 (l.map Kw.cells) :: RoF) [] (fun v L' => v = .bool (l.any p) ∧ L' = []) := by
 refine Tri.enter (args := [lv, (.func (.func fid) #[] caps.toArray)]) (body := _) 9 Try.func36 rfl Try.ntmps36 rfl ?_
 intro w0
 refine J.seq ?_
 refine J.region ?_
 refine O.p (Pu.assign rfl) rfl ?_
 refine O.nil ?_
 refine J.seq ?_
 refine J.region ?_
 refine O.p (Pu.move rfl) rfl ?_
 refine O.p (Pu.move rfl) rfl ?_
 refine O.l (Lo.call [lv, (.func (.func fid) #[] caps.toArray)] (by exact Try.call42) rfl (kw_IndexFunc fid caps p RoF lv l hc hF (by omega)) [] [] (by decide) rfl [] rfl (RoOk.ro 0 rfl [] rfl (RoOk.sub (fun _ hA => List.mem_cons_of_mem _ hA) [] rfl))) rfl ?_
 rintro _ _ ⟨_, ⟨rfl, rfl⟩, rfl⟩
 refine O.p (Pu.geq rfl rfl) rfl ?_
 refine O.p (Pu.assign rfl) rfl ?_
 refine O.nil ?_
 exact J.ret (Fin.ret (rs := [.tmp 4]) rfl [_] ⟨rfl, trivial⟩ [] (by decide) [] rfl ⟨congrArg Value.bool Sh.idx_nn, rfl⟩)

set_option maxRecDepth 100000 in
set_option maxHeartbeats 1000000 in
theorem sd_wrong (b c r key : Int) (sv : Value) (SS : List Svc) (e : Ev) (lv : Value) (l : List Ev) (hl : l.length ≤ 1000) (hS : SS.length ≤ 1000) (hb : 0 ≤ b ∧ b ≤ 7) (hc : 0 ≤ c ∧ c ≤ 15) : Tri Try.prog 24 #[.agg #[.int .i64 b, .int .i64 c, .int .i64 r, .int .u64 key, sv], .agg #[.int .i64 e.kind, .int .i64 e.tick, .int .i64 e.s, .int .i64 e.id, .int .i64 e.code, .int .i64 e.a, .int .i64 e.b], lv] [rd sv 14 (SS.map Svc.cells), rd lv 7 (l.map Ev.cells)] [] (fun v L' => v = .bool (Sh.wrong b c SS e l) ∧ L' = []) := by
 refine Tri.enter (args := [.agg #[.int .i64 b, .int .i64 c, .int .i64 r, .int .u64 key, sv], .agg #[.int .i64 e.kind, .int .i64 e.tick, .int .i64 e.s, .int .i64 e.id, .int .i64 e.code, .int .i64 e.a, .int .i64 e.b], lv]) (body := _) 88 Try.func24 rfl Try.ntmps24 rfl ?_
 intro w0
 refine J.seq ?_
 refine J.region ?_
 refine O.one (Src.ro 0 rfl) (fun hV2 => ?_)
 refine O.l (Lo.box [.int .i64 b, .int .i64 c, .int .i64 r, .int .u64 key, sv] rfl rfl) rfl ?_
 rintro _ _ ⟨g1, rfl, rfl⟩
 refine O.l (Lo.box [.int .i64 e.kind, .int .i64 e.tick, .int .i64 e.s, .int .i64 e.id, .int .i64 e.code, .int .i64 e.a, .int .i64 e.b] rfl rfl) rfl ?_
 rintro _ _ ⟨g3, rfl, rfl⟩
 refine O.p (Pu.assign rfl) rfl ?_
 refine O.nil ?_
 refine J.seq ?_
 refine J.region ?_
 refine O.p (Pu.fieldAddr (off' := 4) Try.runUnderlying25 rfl Try.sizeOf23 rfl rfl rfl) rfl ?_
 refine O.q (Qt.ld rfl (Cel.var 1 rfl) (o := 0) (off := 4) rfl (Cut.one Try.isAgg23 rfl)) rfl ?_
 refine O.q (Qt.lenM Try.runUnderlying23 rfl (Src.ro 0 rfl)) rfl ?_
 refine O.p (Pu.assign rfl) rfl ?_
 refine O.nil ?_
 refine J.seq ?_
 refine J.seq ?_
 refine J.region ?_
 refine O.p (Pu.fieldAddr (off' := 2) Try.runUnderlying45 rfl Try.sizeOf3 rfl rfl rfl) rfl ?_
 refine O.q (Qt.ld rfl (Cel.var 0 rfl) (o := 0) (off := 2) rfl (Cut.one Try.isAgg3 rfl)) rfl ?_
 refine O.p (Pu.lss rfl rfl) rfl ?_
 refine O.p (Pu.move rfl) rfl ?_
 refine by_bool (decide (e.s < 0)) (fun h4 => ?_) (fun h4 => ?_)
 ·
  have p5 := of_decide_eq_true h4
  refine O.gskip (t := 19) rfl rfl (no_bool (by rw [h4]; decide)) rfl rfl ?_
  refine O.gskip (t := 19) rfl rfl (no_bool (by rw [h4]; decide)) rfl rfl ?_
  refine O.gskip (t := 19) rfl rfl (no_bool (by rw [h4]; decide)) rfl rfl ?_
  refine O.gskip (t := 19) rfl rfl (no_bool (by rw [h4]; decide)) rfl rfl ?_
  refine O.p (Pu.pickT rfl h4 rfl) rfl ?_
  refine O.p (Pu.move rfl) rfl ?_
  refine O.gskip (t := 25) rfl rfl (no_bool (by decide)) rfl rfl ?_
  refine O.gskip (t := 25) rfl rfl (no_bool (by decide)) rfl rfl ?_
  refine O.gskip (t := 25) rfl rfl (no_bool (by decide)) rfl rfl ?_
  refine O.p (Pu.pickT rfl rfl rfl) rfl ?_
  refine O.p (Pu.move rfl) rfl ?_
  refine O.gskip (t := 30) rfl rfl (no_bool (by decide)) rfl rfl ?_
  refine O.gskip (t := 30) rfl rfl (no_bool (by decide)) rfl rfl ?_
  refine O.gskip (t := 30) rfl rfl (no_bool (by decide)) rfl rfl ?_
  refine O.gskip (t := 30) rfl rfl (no_bool (by decide)) rfl rfl ?_
  refine O.p (Pu.pickT rfl rfl rfl) rfl ?_
  refine O.nil ?_
  refine J.condT rfl rfl ?_
  refine J.seq ?_
  refine J.region ?_
  refine O.p (Pu.assign rfl) rfl ?_
  refine O.nil ?_
  exact J.ret (Fin.ret (rs := [.tmp 6]) rfl [_] ⟨rfl, trivial⟩ [] (by decide) [] rfl ⟨(by rw [Sh.wrong_out (by omega)]; rfl), rfl⟩)
 ·
  have p6 := of_decide_eq_false h4
  refine O.gq (t := 19) rfl rfl h4 rfl (Pu.qt (Pu.fieldAddr (off' := 2) Try.runUnderlying45 rfl Try.sizeOf3 rfl rfl rfl)) rfl ?_
  refine O.gq (t := 19) rfl rfl h4 rfl (Qt.ld rfl (Cel.var 0 rfl) (o := 0) (off := 2) rfl (Cut.one Try.isAgg3 rfl)) rfl ?_
  refine O.gq (t := 19) rfl rfl h4 rfl (Pu.qt (Pu.move rfl)) rfl ?_
  refine O.gq (t := 19) rfl rfl h4 rfl (Pu.qt (Pu.geq rfl rfl)) rfl ?_
  refine O.p (Pu.pickF rfl h4 rfl) rfl ?_
  refine O.p (Pu.move rfl) rfl ?_
  refine by_bool (decide ((SS.length : Int) ≤ e.s)) (fun h7 => ?_) (fun h7 => ?_)
  ·
   have p8 := of_decide_eq_true h7
   refine O.gskip (t := 25) rfl rfl (no_bool (by rw [h7]; decide)) rfl rfl ?_
   refine O.gskip (t := 25) rfl rfl (no_bool (by rw [h7]; decide)) rfl rfl ?_
   refine O.gskip (t := 25) rfl rfl (no_bool (by rw [h7]; decide)) rfl rfl ?_
   refine O.p (Pu.pickT rfl h7 rfl) rfl ?_
   refine O.p (Pu.move rfl) rfl ?_
   refine O.gskip (t := 30) rfl rfl (no_bool (by decide)) rfl rfl ?_
   refine O.gskip (t := 30) rfl rfl (no_bool (by decide)) rfl rfl ?_
   refine O.gskip (t := 30) rfl rfl (no_bool (by decide)) rfl rfl ?_
   refine O.gskip (t := 30) rfl rfl (no_bool (by decide)) rfl rfl ?_
   refine O.p (Pu.pickT rfl rfl rfl) rfl ?_
   refine O.nil ?_
   refine J.condT rfl rfl ?_
   refine J.seq ?_
   refine J.region ?_
   refine O.p (Pu.assign rfl) rfl ?_
   refine O.nil ?_
   exact J.ret (Fin.ret (rs := [.tmp 6]) rfl [_] ⟨rfl, trivial⟩ [] (by decide) [] rfl ⟨(by rw [Sh.wrong_out (by omega)]; rfl), rfl⟩)
  ·
   have p9 := of_decide_eq_false h7
   refine O.gq (t := 25) rfl rfl h7 rfl (Pu.qt (Pu.fieldAddr (off' := 5) Try.runUnderlying45 rfl Try.sizeOf3 rfl rfl rfl)) rfl ?_
   refine O.gq (t := 25) rfl rfl h7 rfl (Qt.ld rfl (Cel.var 0 rfl) (o := 0) (off := 5) rfl (Cut.one Try.isAgg3 rfl)) rfl ?_
   refine O.gq (t := 25) rfl rfl h7 rfl (Pu.qt (Pu.lss rfl rfl)) rfl ?_
   refine O.p (Pu.pickF rfl h7 rfl) rfl ?_
   refine O.p (Pu.move rfl) rfl ?_
   refine by_bool (decide (e.a < 0)) (fun h10 => ?_) (fun h10 => ?_)
   ·
    have p11 := of_decide_eq_true h10
    refine O.gskip (t := 30) rfl rfl (no_bool (by rw [h10]; decide)) rfl rfl ?_
    refine O.gskip (t := 30) rfl rfl (no_bool (by rw [h10]; decide)) rfl rfl ?_
    refine O.gskip (t := 30) rfl rfl (no_bool (by rw [h10]; decide)) rfl rfl ?_
    refine O.gskip (t := 30) rfl rfl (no_bool (by rw [h10]; decide)) rfl rfl ?_
    refine O.p (Pu.pickT rfl h10 rfl) rfl ?_
    refine O.nil ?_
    refine J.condT rfl rfl ?_
    refine J.seq ?_
    refine J.region ?_
    refine O.p (Pu.assign rfl) rfl ?_
    refine O.nil ?_
    exact J.ret (Fin.ret (rs := [.tmp 6]) rfl [_] ⟨rfl, trivial⟩ [] (by decide) [] rfl ⟨(by rw [Sh.wrong_out (by omega)]; rfl), rfl⟩)
   ·
    have p12 := of_decide_eq_false h10
    refine O.gq (t := 30) rfl rfl h10 rfl (Pu.qt (Pu.fieldAddr (off' := 5) Try.runUnderlying45 rfl Try.sizeOf3 rfl rfl rfl)) rfl ?_
    refine O.gq (t := 30) rfl rfl h10 rfl (Qt.ld rfl (Cel.var 0 rfl) (o := 0) (off := 5) rfl (Cut.one Try.isAgg3 rfl)) rfl ?_
    refine O.gq (t := 30) rfl rfl h10 rfl (Pu.qt (Pu.move rfl)) rfl ?_
    refine O.gq (t := 30) rfl rfl h10 rfl (Pu.qt (Pu.geq rfl rfl)) rfl ?_
    refine O.p (Pu.pickF rfl h10 rfl) rfl ?_
    refine O.nil ?_
    refine J.cond rfl (fun h13 => ?_) (fun h13 => ?_)
    ·
     have p14 := of_decide_eq_true h13
     refine J.seq ?_
     refine J.region ?_
     refine O.p (Pu.assign rfl) rfl ?_
     refine O.nil ?_
     exact J.ret (Fin.ret (rs := [.tmp 6]) rfl [_] ⟨rfl, trivial⟩ [] (by decide) [] rfl ⟨(by rw [Sh.wrong_out (by omega)]; rfl), rfl⟩)
    ·
     have p15 := of_decide_eq_false h13
     refine J.skip ?_
     refine J.seq ?_
     refine J.region ?_
     refine O.p (Pu.fieldAddr (off' := 2) Try.runUnderlying45 rfl Try.sizeOf3 rfl rfl rfl) rfl ?_
     refine O.q (Qt.ld rfl (Cel.var 0 rfl) (o := 0) (off := 2) rfl (Cut.one Try.isAgg3 rfl)) rfl ?_
     refine O.p (Pu.fieldAddr (off' := 3) Try.runUnderlying45 rfl Try.sizeOf3 rfl rfl rfl) rfl ?_
     refine O.q (Qt.ld rfl (Cel.var 0 rfl) (o := 0) (off := 3) rfl (Cut.one Try.isAgg3 rfl)) rfl ?_
     refine O.p (Pu.move rfl) rfl ?_
     refine O.l (Lo.call [.int .i64 e.s, .int .i64 e.id, lv] (by exact Try.call34) rfl (sd_asked e.s e.id lv l (by omega)) [] [0, 1] (by decide) rfl [var g3 [.int .i64 e.kind, .int .i64 e.tick, .int .i64 e.s, .int .i64 e.id, .int .i64 e.code, .int .i64 e.a, .int .i64 e.b] 45, var g1 [.int .i64 b, .int .i64 c, .int .i64 r, .int .u64 key, sv] 25] rfl (RoOk.ro 1 rfl [] rfl RoOk.nil)) rfl ?_
     rintro _ _ ⟨_, ⟨rfl, rfl⟩, rfl⟩
     refine O.p (Pu.move rfl) rfl ?_
     refine O.p (Pu.extract rfl rfl) rfl ?_
     refine O.p (Pu.extract rfl rfl) rfl ?_
     refine O.p (Pu.assign rfl) rfl ?_
     refine O.p (Pu.assign rfl) rfl ?_
     refine O.nil ?_
     refine J.seq ?_
     refine J.drawMix [(0, false), (1, false), (2, false), (3, false), (4, false), (5, false), (6, false), (7, false), (8, false), (9, false), (10, false), (11, false), (12, false), (13, false), (14, false), (15, false), (16, false), (17, false), (18, true), (19, true), (20, false)] [0, 1] [var g3 [.int .i64 e.kind, .int .i64 e.tick, .int .i64 e.s, .int .i64 e.id, .int .i64 e.code, .int .i64 e.a, .int .i64 e.b] 45, var g1 [.int .i64 b, .int .i64 c, .int .i64 r, .int .u64 key, sv] 25] Try.mixed (by kernel_rfl) (by decide) rfl ?_
     refine Mx.p rfl (Pu.fieldAddr (off' := 2) Try.runUnderlying45 rfl Try.sizeOf3 rfl rfl rfl) rfl ?_
     refine Mx.q rfl (Qt.ld rfl (Cel.var 0 rfl) (o := 0) (off := 2) rfl (Cut.one Try.isAgg3 rfl)) rfl ?_
     refine Mx.p rfl (Pu.fieldAddr (off' := 5) Try.runUnderlying45 rfl Try.sizeOf3 rfl rfl rfl) rfl ?_
     refine Mx.q rfl (Qt.ld rfl (Cel.var 0 rfl) (o := 0) (off := 5) rfl (Cut.one Try.isAgg3 rfl)) rfl ?_
     refine Mx.p rfl (Pu.fieldAddr (off' := 4) Try.runUnderlying25 rfl Try.sizeOf23 rfl rfl rfl) rfl ?_
     refine Mx.q rfl (Qt.ld rfl (Cel.var 1 rfl) (o := 0) (off := 4) rfl (Cut.one Try.isAgg23 rfl)) rfl ?_
     refine Mx.p rfl (Pu.fieldAddr (off' := 2) Try.runUnderlying45 rfl Try.sizeOf3 rfl rfl rfl) rfl ?_
     refine Mx.q rfl (Qt.ld rfl (Cel.var 0 rfl) (o := 0) (off := 2) rfl (Cut.one Try.isAgg3 rfl)) rfl ?_
     obtain ⟨e17, he17⟩ : ∃ x_, SS[(e.s).toNat]? = some x_ := ⟨_, List.getElem?_eq_getElem (by omega)⟩
     refine Mx.q rfl (Qt.idxM Try.runUnderlying23 Try.sizeOf66 rfl (Src.ro 0 rfl) rfl (by omega) (by omega)) rfl ?_
     refine Mx.p rfl (Pu.fieldAddr (off' := voff sv + (e.s).toNat * 14 + 5) Try.runUnderlying66 rfl Try.sizeOf3 rfl rfl rfl) rfl ?_
     refine Mx.q rfl (Qt.ld rfl (Cel.eltM (Src.ro 0 rfl) he17) (o := (voff sv + ((e.s).toNat) * 14)) (off := 5) (by omega) (Cut.one Try.isAgg3 rfl)) rfl ?_
     refine Mx.p rfl (Pu.fieldAddr (off' := 1) Try.runUnderlying45 rfl Try.sizeOf3 rfl rfl rfl) rfl ?_
     refine Mx.q rfl (Qt.ld rfl (Cel.var 0 rfl) (o := 0) (off := 1) rfl (Cut.one Try.isAgg3 rfl)) rfl ?_
     refine Mx.p rfl (Pu.move rfl) rfl ?_
     refine Mx.call (vs := [.int .i64 e.s, .int .i64 e.a, .int .i64 e17.ttl, .int .i64 e.tick, lv]) (caps := []) rfl (by exact Try.call5) rfl rfl (sd_Told e.s e.a e17.ttl e.tick lv l (by omega)) (fun _ _ h => h) (RoOk.ro 1 rfl [] rfl RoOk.nil) rfl ?_
     refine Mx.p rfl (Pu.move rfl) rfl ?_
     refine Mx.p rfl (Pu.extract rfl rfl) rfl ?_
     refine Mx.p rfl (Pu.extract rfl rfl) rfl ?_
     refine Mx.l rfl (Lo.alloc [.int .i64 0, .int .i64 0, .int .i64 0, .int .i64 0] (by exact Try.zeroValue30) rfl) rfl ?_
     rintro _ _ ⟨g18, rfl, rfl⟩
     refine MxK.go [1, 2] [0, 1] [var g3 [.int .i64 e.kind, .int .i64 e.tick, .int .i64 e.s, .int .i64 e.id, .int .i64 e.code, .int .i64 e.a, .int .i64 e.b] 45, var g1 [.int .i64 b, .int .i64 c, .int .i64 r, .int .u64 key, sv] 25] (by decide) rfl (by decide) rfl ?_
     refine Mx.l0 rfl (Lo.store 0 (vs := [.int .i64 (((Sh.told e.s e.a e17.ttl e.tick l).1).to), .int .i64 (((Sh.told e.s e.a e17.ttl e.tick l).1).thr), .int .i64 (((Sh.told e.s e.a e17.ttl e.tick l).1).ep), .int .i64 (((Sh.told e.s e.a e17.ttl e.tick l).1).at_)]) [.int .i64 (((Sh.told e.s e.a e17.ttl e.tick l).1).to), .int .i64 (((Sh.told e.s e.a e17.ttl e.tick l).1).thr), .int .i64 (((Sh.told e.s e.a e17.ttl e.tick l).1).ep), .int .i64 (((Sh.told e.s e.a e17.ttl e.tick l).1).at_)] rfl rfl rfl (by exact Try.sizeOf30) rfl rfl rfl rfl rfl) ?_
     rintro _ _ rfl
     refine MxK.go [1, 2] [0, 1] [var g3 [.int .i64 e.kind, .int .i64 e.tick, .int .i64 e.s, .int .i64 e.id, .int .i64 e.code, .int .i64 e.a, .int .i64 e.b] 45, var g1 [.int .i64 b, .int .i64 c, .int .i64 r, .int .u64 key, sv] 25] (by decide) rfl (by decide) rfl ?_
     refine Mx.p rfl (Pu.assign rfl) rfl ?_
     refine Mx.nil ?_
     refine J.seq ?_
     refine J.seq ?_
     refine J.region ?_
     refine O.p (Pu.move rfl) rfl ?_
     refine O.p (Pu.not rfl) rfl ?_
     refine O.p (Pu.move rfl) rfl ?_
     refine by_bool (!((Sh.ask e.s e.id l).2)) (fun h19 => ?_) (fun h19 => ?_)
     ·
      have h20 : ((Sh.ask e.s e.id l).2) = false := not_flip h19
      refine O.gskip (t := 65) rfl rfl (no_bool (by rw [h19]; decide)) rfl rfl ?_
      refine O.gskip (t := 65) rfl rfl (no_bool (by rw [h19]; decide)) rfl rfl ?_
      refine O.p (Pu.pickT rfl h19 rfl) rfl ?_
      refine O.p (Pu.move rfl) rfl ?_
      refine O.gskip (t := 69) rfl rfl (no_bool (by decide)) rfl rfl ?_
      refine O.gskip (t := 69) rfl rfl (no_bool (by decide)) rfl rfl ?_
      refine O.gskip (t := 69) rfl rfl (no_bool (by decide)) rfl rfl ?_
      refine O.gskip (t := 69) rfl rfl (no_bool (by decide)) rfl rfl ?_
      refine O.p (Pu.pickT rfl rfl rfl) rfl ?_
      refine O.nil ?_
      refine J.condT rfl rfl ?_
      refine J.seq ?_
      refine J.region ?_
      refine O.p (Pu.assign rfl) rfl ?_
      refine O.nil ?_
      exact J.ret (Fin.ret (rs := [.tmp 6]) rfl [_] ⟨rfl, trivial⟩ [] (by decide) [] rfl ⟨(by rw [Sh.wrong_in (by omega)]; simp [vOf, Sh.bad2, Sh.tOf_at he17, *]), rfl⟩)
     ·
      have h21 : ((Sh.ask e.s e.id l).2) = true := not_flip h19
      refine O.gq (t := 65) rfl rfl h19 rfl (Pu.qt (Pu.move rfl)) rfl ?_
      refine O.gq (t := 65) rfl rfl h19 rfl (Pu.qt (Pu.not rfl)) rfl ?_
      refine O.p (Pu.pickF rfl h19 rfl) rfl ?_
      refine O.p (Pu.move rfl) rfl ?_
      refine by_bool (!((Sh.told e.s e.a e17.ttl e.tick l).2)) (fun h22 => ?_) (fun h22 => ?_)
      ·
       have h23 : ((Sh.told e.s e.a e17.ttl e.tick l).2) = false := not_flip h22
       refine O.gskip (t := 69) rfl rfl (no_bool (by rw [h22]; decide)) rfl rfl ?_
       refine O.gskip (t := 69) rfl rfl (no_bool (by rw [h22]; decide)) rfl rfl ?_
       refine O.gskip (t := 69) rfl rfl (no_bool (by rw [h22]; decide)) rfl rfl ?_
       refine O.gskip (t := 69) rfl rfl (no_bool (by rw [h22]; decide)) rfl rfl ?_
       refine O.p (Pu.pickT rfl h22 rfl) rfl ?_
       refine O.nil ?_
       refine J.condT rfl rfl ?_
       refine J.seq ?_
       refine J.region ?_
       refine O.p (Pu.assign rfl) rfl ?_
       refine O.nil ?_
       exact J.ret (Fin.ret (rs := [.tmp 6]) rfl [_] ⟨rfl, trivial⟩ [] (by decide) [] rfl ⟨(by rw [Sh.wrong_in (by omega)]; simp [vOf, Sh.bad2, Sh.tOf_at he17, *]), rfl⟩)
      ·
       have h24 : ((Sh.told e.s e.a e17.ttl e.tick l).2) = true := not_flip h22
       refine O.gq (t := 69) rfl rfl h22 rfl (Pu.qt (Pu.move rfl)) rfl ?_
       refine O.gq (t := 69) rfl rfl h22 rfl (Pu.qt (Pu.fieldAddr (off' := 1) Try.runUnderlying30 rfl Try.sizeOf3 rfl rfl rfl)) rfl ?_
       refine O.gq (t := 69) rfl rfl h22 rfl (Qt.ld rfl (Cel.var 0 rfl) (o := 0) (off := 1) rfl (Cut.one Try.isAgg3 rfl)) rfl ?_
       refine O.gl (t := 69) rfl rfl h22 rfl (Lo.call [.int .i64 ((Sh.ask e.s e.id l).1), .int .i64 (((Sh.told e.s e.a e17.ttl e.tick l).1).thr)] (by exact Try.call35) rfl (lv_Passes ((Sh.ask e.s e.id l).1) (((Sh.told e.s e.a e17.ttl e.tick l).1).thr)) [] [0, 1, 2] (by decide) rfl [var g18 [.int .i64 (((Sh.told e.s e.a e17.ttl e.tick l).1).to), .int .i64 (((Sh.told e.s e.a e17.ttl e.tick l).1).thr), .int .i64 (((Sh.told e.s e.a e17.ttl e.tick l).1).ep), .int .i64 (((Sh.told e.s e.a e17.ttl e.tick l).1).at_)] 30, var g3 [.int .i64 e.kind, .int .i64 e.tick, .int .i64 e.s, .int .i64 e.id, .int .i64 e.code, .int .i64 e.a, .int .i64 e.b] 45, var g1 [.int .i64 b, .int .i64 c, .int .i64 r, .int .u64 key, sv] 25] rfl RoOk.nil) rfl ?_
       rintro _ _ ⟨_, ⟨rfl, rfl⟩, rfl⟩
       refine O.p (Pu.pickF rfl h22 rfl) rfl ?_
       refine O.nil ?_
       refine J.cond rfl (fun h26 => ?_) (fun h26 => ?_)
       ·
        refine J.seq ?_
        refine J.region ?_
        refine O.p (Pu.assign rfl) rfl ?_
        refine O.nil ?_
        exact J.ret (Fin.ret (rs := [.tmp 6]) rfl [_] ⟨rfl, trivial⟩ [] (by decide) [] rfl ⟨(by rw [Sh.wrong_in (by omega)]; simp [vOf, Sh.bad2, Sh.tOf_at he17, *]), rfl⟩)
       ·
        refine J.skip ?_
        refine J.seq ?_
        refine J.region ?_
        refine O.p (Pu.fieldAddr (off' := 5) Try.runUnderlying45 rfl Try.sizeOf3 rfl rfl rfl) rfl ?_
        refine O.q (Qt.ld rfl (Cel.var 1 rfl) (o := 0) (off := 5) rfl (Cut.one Try.isAgg3 rfl)) rfl ?_
        refine O.p (Pu.fieldAddr (off' := 0) Try.runUnderlying25 rfl Try.sizeOf3 rfl rfl rfl) rfl ?_
        refine O.q (Qt.ld rfl (Cel.var 2 rfl) (o := 0) (off := 0) rfl (Cut.one Try.isAgg3 rfl)) rfl ?_
        refine O.p (Pu.fieldAddr (off' := 1) Try.runUnderlying25 rfl Try.sizeOf3 rfl rfl rfl) rfl ?_
        refine O.q (Qt.ld rfl (Cel.var 2 rfl) (o := 0) (off := 1) rfl (Cut.one Try.isAgg3 rfl)) rfl ?_
        refine O.p (Pu.mul' rfl rfl (by first | omega | (have h_ := Sh.mul_bnd hb hc; omega))) rfl ?_
        refine O.p (Pu.move rfl) rfl ?_
        refine O.l (Lo.call [.int .i64 e.a, .int .i64 (b * c), lv] (by exact Try.call10) rfl (sd_Published e.a (b * c) lv l (by omega)) [] [0, 1, 2] (by decide) rfl [var g18 [.int .i64 (((Sh.told e.s e.a e17.ttl e.tick l).1).to), .int .i64 (((Sh.told e.s e.a e17.ttl e.tick l).1).thr), .int .i64 (((Sh.told e.s e.a e17.ttl e.tick l).1).ep), .int .i64 (((Sh.told e.s e.a e17.ttl e.tick l).1).at_)] 30, var g3 [.int .i64 e.kind, .int .i64 e.tick, .int .i64 e.s, .int .i64 e.id, .int .i64 e.code, .int .i64 e.a, .int .i64 e.b] 45, var g1 [.int .i64 b, .int .i64 c, .int .i64 r, .int .u64 key, sv] 25] rfl (RoOk.ro 1 rfl [] rfl RoOk.nil)) rfl ?_
        rintro v27 _ ⟨_, rfl, rfl⟩
        refine O.p (Pu.assign rfl) rfl ?_
        refine O.nil ?_
        refine J.seq ?_
        refine J.region ?_
        refine O.p (Pu.move rfl) rfl ?_
        refine O.p (Pu.makeFunc [.pointer (some ⟨g18, 0, none⟩)] rfl) rfl ?_
        refine O.l (Lo.call [v27, .func (.func 37) #[] #[.pointer (some ⟨g18, 0, none⟩)]] (by exact Try.call36) rfl (kw_ContainsFunc 37 [.pointer (some ⟨g18, 0, none⟩)] (fun d => decide (d.thr = ((Sh.told e.s e.a e17.ttl e.tick l).1).thr) && decide (d.ep = ((Sh.told e.s e.a e17.ttl e.tick l).1).ep)) [var g18 [.int .i64 (((Sh.told e.s e.a e17.ttl e.tick l).1).to), .int .i64 (((Sh.told e.s e.a e17.ttl e.tick l).1).thr), .int .i64 (((Sh.told e.s e.a e17.ttl e.tick l).1).ep), .int .i64 (((Sh.told e.s e.a e17.ttl e.tick l).1).at_)] 30] v27 (Sh.pub e.a (b * c) l) (by exact (by exact Try.call37)) (fun kq => sd_wrong1 kq g18 ((Sh.told e.s e.a e17.ttl e.tick l).1)) (by have h_ := Sh.pub_len (s := e.a) (n := b * c) (l := l); omega)) [] [0, 1, 2, 3] (by decide) rfl [row v27 30 4 ((Sh.pub e.a (b * c) l).map Kw.cells), var g18 [.int .i64 (((Sh.told e.s e.a e17.ttl e.tick l).1).to), .int .i64 (((Sh.told e.s e.a e17.ttl e.tick l).1).thr), .int .i64 (((Sh.told e.s e.a e17.ttl e.tick l).1).ep), .int .i64 (((Sh.told e.s e.a e17.ttl e.tick l).1).at_)] 30, var g3 [.int .i64 e.kind, .int .i64 e.tick, .int .i64 e.s, .int .i64 e.id, .int .i64 e.code, .int .i64 e.a, .int .i64 e.b] 45, var g1 [.int .i64 b, .int .i64 c, .int .i64 r, .int .u64 key, sv] 25] rfl (RoOk.of 0 rfl row_rd [] (by decide) rfl (RoOk.of 1 rfl same_rd [] (by decide) rfl RoOk.nil))) rfl ?_
        rintro _ _ ⟨_, ⟨rfl, rfl⟩, rfl⟩
        refine O.p (Pu.not rfl) rfl ?_
        refine O.p (Pu.assign rfl) rfl ?_
        refine O.nil ?_
        exact J.ret (Fin.ret (rs := [.tmp 6]) rfl [_] ⟨rfl, trivial⟩ [] (by decide) [] rfl ⟨(by rw [Sh.wrong_in (by omega)]; simp [vOf, Sh.bad2, Sh.hasP, Sh.tOf_at he17, *]), rfl⟩)

end Go.Proofs.Ytdnalilglacjbaa
