/-
  Walks, printed by a program of mine (lk.py): each function meets its contract.
-/
import Derived.KernelRfl
import Derived.Test.YtdnalilglacjbaaSX5
namespace Go.Proofs.Ytdnalilglacjbaa
open Go Go.LK
set_option linter.unusedSimpArgs false

set_option maxRecDepth 100000 in
set_option maxHeartbeats 1000000 in
theorem r43_wrong (b c r key : Int) (sv : Value) (SS : List Svc) (e : Ev) (lv : Value) (l : List Ev) (hl : l.length ≤ 1000) (hS : SS.length ≤ 1000) (hb : 0 ≤ b ∧ b ≤ 7) (hc : 0 ≤ c ∧ c ≤ 15) : Tri Try.prog 25 #[.agg #[.int .i64 b, .int .i64 c, .int .i64 r, .int .u64 key, sv], .agg #[.int .i64 e.kind, .int .i64 e.tick, .int .i64 e.s, .int .i64 e.id, .int .i64 e.code, .int .i64 e.a, .int .i64 e.b], lv] [rd sv 14 (SS.map Svc.cells), rd lv 7 (l.map Ev.cells)] [] (fun v L' => v = .bool (Sh.wrong b c SS e l) ∧ L' = []) := by
 refine Tri.enter (args := [.agg #[.int .i64 b, .int .i64 c, .int .i64 r, .int .u64 key, sv], .agg #[.int .i64 e.kind, .int .i64 e.tick, .int .i64 e.s, .int .i64 e.id, .int .i64 e.code, .int .i64 e.a, .int .i64 e.b], lv]) (body := _) 142 Try.func25 rfl Try.ntmps25 rfl ?_
 intro w0
 refine J.seq ?_
 refine J.region ?_
 refine O.one (Src.ro 0 rfl) (fun hV2 => ?_)
 refine O.l (Lo.box [.int .i64 b, .int .i64 c, .int .i64 r, .int .u64 key, sv] rfl rfl) rfl ?_
 rintro _ _ ⟨g1, rfl, rfl⟩
 refine O.l (Lo.box [.int .i64 e.kind, .int .i64 e.tick, .int .i64 e.s, .int .i64 e.id, .int .i64 e.code, .int .i64 e.a, .int .i64 e.b] rfl rfl) rfl ?_
 rintro _ _ ⟨g3, rfl, rfl⟩
 refine O.p (Pu.assign rfl) rfl ?_
 refine O.nil ?_
 refine J.seq ?_
 refine J.seq ?_
 refine J.region ?_
 refine O.p (Pu.fieldAddr (off' := 2) Try.runUnderlying45 rfl Try.sizeOf3 rfl rfl rfl) rfl ?_
 refine O.q (Qt.ld rfl (Cel.var 0 rfl) (o := 0) (off := 2) rfl (Cut.one Try.isAgg3 rfl)) rfl ?_
 refine O.p (Pu.lss rfl rfl) rfl ?_
 refine O.p (Pu.move rfl) rfl ?_
 refine by_bool (decide (e.s < 0)) (fun h4 => ?_) (fun h4 => ?_)
 ·
  have p5 := of_decide_eq_true h4
  refine O.gskip (t := 17) rfl rfl (no_bool (by rw [h4]; decide)) rfl rfl ?_
  refine O.gskip (t := 17) rfl rfl (no_bool (by rw [h4]; decide)) rfl rfl ?_
  refine O.gskip (t := 17) rfl rfl (no_bool (by rw [h4]; decide)) rfl rfl ?_
  refine O.gskip (t := 17) rfl rfl (no_bool (by rw [h4]; decide)) rfl rfl ?_
  refine O.gskip (t := 17) rfl rfl (no_bool (by rw [h4]; decide)) rfl rfl ?_
  refine O.gskip (t := 17) rfl rfl (no_bool (by rw [h4]; decide)) rfl rfl ?_
  refine O.p (Pu.pickT rfl h4 rfl) rfl ?_
  refine O.p (Pu.move rfl) rfl ?_
  refine O.gskip (t := 25) rfl rfl (no_bool (by decide)) rfl rfl ?_
  refine O.gskip (t := 25) rfl rfl (no_bool (by decide)) rfl rfl ?_
  refine O.gskip (t := 25) rfl rfl (no_bool (by decide)) rfl rfl ?_
  refine O.p (Pu.pickT rfl rfl rfl) rfl ?_
  refine O.p (Pu.move rfl) rfl ?_
  refine O.gskip (t := 30) rfl rfl (no_bool (by decide)) rfl rfl ?_
  refine O.gskip (t := 30) rfl rfl (no_bool (by decide)) rfl rfl ?_
  refine O.gskip (t := 30) rfl rfl (no_bool (by decide)) rfl rfl ?_
  refine O.gskip (t := 30) rfl rfl (no_bool (by decide)) rfl rfl ?_
  refine O.gskip (t := 30) rfl rfl (no_bool (by decide)) rfl rfl ?_
  refine O.gskip (t := 30) rfl rfl (no_bool (by decide)) rfl rfl ?_
  refine O.p (Pu.pickT rfl rfl rfl) rfl ?_
  refine O.nil ?_
  refine J.condT rfl rfl ?_
  refine J.seq ?_
  refine J.region ?_
  refine O.p (Pu.assign rfl) rfl ?_
  refine O.nil ?_
  exact J.ret (Fin.ret (rs := [.tmp 6]) rfl [_] ⟨rfl, trivial⟩ [] (by decide) [] rfl ⟨(by rw [Sh.wrong_out (by omega)]; rfl), rfl⟩)
 ·
  have p6 := of_decide_eq_false h4
  refine O.gq (t := 17) rfl rfl h4 rfl (Pu.qt (Pu.fieldAddr (off' := 2) Try.runUnderlying45 rfl Try.sizeOf3 rfl rfl rfl)) rfl ?_
  refine O.gq (t := 17) rfl rfl h4 rfl (Qt.ld rfl (Cel.var 0 rfl) (o := 0) (off := 2) rfl (Cut.one Try.isAgg3 rfl)) rfl ?_
  refine O.gq (t := 17) rfl rfl h4 rfl (Pu.qt (Pu.fieldAddr (off' := 4) Try.runUnderlying25 rfl Try.sizeOf23 rfl rfl rfl)) rfl ?_
  refine O.gq (t := 17) rfl rfl h4 rfl (Qt.ld rfl (Cel.var 1 rfl) (o := 0) (off := 4) rfl (Cut.one Try.isAgg23 rfl)) rfl ?_
  refine O.gq (t := 17) rfl rfl h4 rfl (Qt.lenM Try.runUnderlying23 rfl (Src.ro 0 rfl)) rfl ?_
  refine O.gq (t := 17) rfl rfl h4 rfl (Pu.qt (Pu.geq rfl rfl)) rfl ?_
  refine O.p (Pu.pickF rfl h4 rfl) rfl ?_
  refine O.p (Pu.move rfl) rfl ?_
  refine by_bool (decide ((SS.length : Int) ≤ e.s)) (fun h7 => ?_) (fun h7 => ?_)
  ·
   have p8 := of_decide_eq_true h7
   refine O.gskip (t := 25) rfl rfl (no_bool (by rw [h7]; decide)) rfl rfl ?_
   refine O.gskip (t := 25) rfl rfl (no_bool (by rw [h7]; decide)) rfl rfl ?_
   refine O.gskip (t := 25) rfl rfl (no_bool (by rw [h7]; decide)) rfl rfl ?_
   refine O.p (Pu.pickT rfl h7 rfl) rfl ?_
   refine O.p (Pu.move rfl) rfl ?_
   refine O.gskip (t := 30) rfl rfl (no_bool (by decide)) rfl rfl ?_
   refine O.gskip (t := 30) rfl rfl (no_bool (by decide)) rfl rfl ?_
   refine O.gskip (t := 30) rfl rfl (no_bool (by decide)) rfl rfl ?_
   refine O.gskip (t := 30) rfl rfl (no_bool (by decide)) rfl rfl ?_
   refine O.gskip (t := 30) rfl rfl (no_bool (by decide)) rfl rfl ?_
   refine O.gskip (t := 30) rfl rfl (no_bool (by decide)) rfl rfl ?_
   refine O.p (Pu.pickT rfl rfl rfl) rfl ?_
   refine O.nil ?_
   refine J.condT rfl rfl ?_
   refine J.seq ?_
   refine J.region ?_
   refine O.p (Pu.assign rfl) rfl ?_
   refine O.nil ?_
   exact J.ret (Fin.ret (rs := [.tmp 6]) rfl [_] ⟨rfl, trivial⟩ [] (by decide) [] rfl ⟨(by rw [Sh.wrong_out (by omega)]; rfl), rfl⟩)
  ·
   have p9 := of_decide_eq_false h7
   refine O.gq (t := 25) rfl rfl h7 rfl (Pu.qt (Pu.fieldAddr (off' := 5) Try.runUnderlying45 rfl Try.sizeOf3 rfl rfl rfl)) rfl ?_
   refine O.gq (t := 25) rfl rfl h7 rfl (Qt.ld rfl (Cel.var 0 rfl) (o := 0) (off := 5) rfl (Cut.one Try.isAgg3 rfl)) rfl ?_
   refine O.gq (t := 25) rfl rfl h7 rfl (Pu.qt (Pu.lss rfl rfl)) rfl ?_
   refine O.p (Pu.pickF rfl h7 rfl) rfl ?_
   refine O.p (Pu.move rfl) rfl ?_
   refine by_bool (decide (e.a < 0)) (fun h10 => ?_) (fun h10 => ?_)
   ·
    have p11 := of_decide_eq_true h10
    refine O.gskip (t := 30) rfl rfl (no_bool (by rw [h10]; decide)) rfl rfl ?_
    refine O.gskip (t := 30) rfl rfl (no_bool (by rw [h10]; decide)) rfl rfl ?_
    refine O.gskip (t := 30) rfl rfl (no_bool (by rw [h10]; decide)) rfl rfl ?_
    refine O.gskip (t := 30) rfl rfl (no_bool (by rw [h10]; decide)) rfl rfl ?_
    refine O.gskip (t := 30) rfl rfl (no_bool (by rw [h10]; decide)) rfl rfl ?_
    refine O.gskip (t := 30) rfl rfl (no_bool (by rw [h10]; decide)) rfl rfl ?_
    refine O.p (Pu.pickT rfl h10 rfl) rfl ?_
    refine O.nil ?_
    refine J.condT rfl rfl ?_
    refine J.seq ?_
    refine J.region ?_
    refine O.p (Pu.assign rfl) rfl ?_
    refine O.nil ?_
    exact J.ret (Fin.ret (rs := [.tmp 6]) rfl [_] ⟨rfl, trivial⟩ [] (by decide) [] rfl ⟨(by rw [Sh.wrong_out (by omega)]; rfl), rfl⟩)
   ·
    have p12 := of_decide_eq_false h10
    refine O.gq (t := 30) rfl rfl h10 rfl (Pu.qt (Pu.fieldAddr (off' := 5) Try.runUnderlying45 rfl Try.sizeOf3 rfl rfl rfl)) rfl ?_
    refine O.gq (t := 30) rfl rfl h10 rfl (Qt.ld rfl (Cel.var 0 rfl) (o := 0) (off := 5) rfl (Cut.one Try.isAgg3 rfl)) rfl ?_
    refine O.gq (t := 30) rfl rfl h10 rfl (Pu.qt (Pu.fieldAddr (off' := 4) Try.runUnderlying25 rfl Try.sizeOf23 rfl rfl rfl)) rfl ?_
    refine O.gq (t := 30) rfl rfl h10 rfl (Qt.ld rfl (Cel.var 1 rfl) (o := 0) (off := 4) rfl (Cut.one Try.isAgg23 rfl)) rfl ?_
    refine O.gq (t := 30) rfl rfl h10 rfl (Qt.lenM Try.runUnderlying23 rfl (Src.ro 0 rfl)) rfl ?_
    refine O.gq (t := 30) rfl rfl h10 rfl (Pu.qt (Pu.geq rfl rfl)) rfl ?_
    refine O.p (Pu.pickF rfl h10 rfl) rfl ?_
    refine O.nil ?_
    refine J.cond rfl (fun h13 => ?_) (fun h13 => ?_)
    ·
     have p14 := of_decide_eq_true h13
     refine J.seq ?_
     refine J.region ?_
     refine O.p (Pu.assign rfl) rfl ?_
     refine O.nil ?_
     exact J.ret (Fin.ret (rs := [.tmp 6]) rfl [_] ⟨rfl, trivial⟩ [] (by decide) [] rfl ⟨(by rw [Sh.wrong_out (by omega)]; rfl), rfl⟩)
    ·
     have p15 := of_decide_eq_false h13
     refine J.skip ?_
     refine J.seq ?_
     refine J.region ?_
     refine O.p (Pu.assign rfl) rfl ?_
     refine O.p (Pu.assign rfl) rfl ?_
     refine O.nil ?_
     refine J.seq ?_
     refine J.seq ?_
     refine J.region ?_
     refine O.p (Pu.assign rfl) rfl ?_
     refine O.nil ?_
     refine J.block ?_
     refine J.loop (X := Nat × Int × Bool) (fun ξ => ξ.1 ≤ l.length ∧ (ξ.2.1, ξ.2.2) = Sh.ask e.s e.id (l.take ξ.1)) (fun ξ => [(2, lv), (3, .pointer (some ⟨g1, 0, none⟩)), (4, .pointer (some ⟨g3, 0, none⟩)), (6, .bool false), (7, .int .i64 ξ.2.1), (8, .bool ξ.2.2), (9, .int .i64 (ξ.1 : Int))]) (fun ξ => [var g3 [.int .i64 e.kind, .int .i64 e.tick, .int .i64 e.s, .int .i64 e.id, .int .i64 e.code, .int .i64 e.a, .int .i64 e.b] 45, var g1 [.int .i64 b, .int .i64 c, .int .i64 r, .int .u64 key, sv] 25]) (fun ξ => l.length - ξ.1) ⟨0, 0, false⟩ (show 0 ≤ l.length ∧ (0, false) = Sh.ask e.s e.id (l.take 0) from ⟨by omega, Sh.ask_zero.symm⟩) ⟨rfl, rfl, rfl, rfl, rfl, rfl, (congrArg (fun z => some (Value.int .i64 z)) (by first | rfl | omega : (0 : Int) = (0 : Int))), trivial⟩ [0, 1] (by decide) rfl ?_
     rintro ⟨k, n, o⟩ hq16
     obtain ⟨hk, hst⟩ : k ≤ l.length ∧ (n, o) = Sh.ask e.s e.id (l.take k) := hq16
     show J _ _ [(2, lv), (3, .pointer (some ⟨g1, 0, none⟩)), (4, .pointer (some ⟨g3, 0, none⟩)), (6, .bool false), (7, .int .i64 n), (8, .bool o), (9, .int .i64 (k : Int))] [var g3 [.int .i64 e.kind, .int .i64 e.tick, .int .i64 e.s, .int .i64 e.id, .int .i64 e.code, .int .i64 e.a, .int .i64 e.b] 45, var g1 [.int .i64 b, .int .i64 c, .int .i64 r, .int .u64 key, sv] 25]
     refine J.seq ?_
     refine J.seq ?_
     refine J.region ?_
     refine O.p (Pu.move rfl) rfl ?_
     refine O.p (Pu.move rfl) rfl ?_
     refine O.q (Qt.lenM Try.runUnderlying26 rfl (Src.ro 1 rfl)) rfl ?_
     refine O.p (Pu.lss rfl rfl) rfl ?_
     refine O.nil ?_
     refine J.cond rfl (fun h17 => ?_) (fun h17 => ?_)
     ·
      have p18 := of_decide_eq_true h17
      refine J.skip ?_
      refine J.seq ?_
      refine J.block ?_
      refine J.seq ?_
      refine J.drawStill Try.mixed (by kernel_rfl) ?_
      refine S.p (Pu.move rfl) rfl ?_
      refine S.p (Pu.move rfl) rfl ?_
      obtain ⟨e19, he19⟩ : ∃ x_, l[k]? = some x_ := ⟨_, List.getElem?_eq_getElem (by first | omega | (have h_ := Sh.pub_len (s := e.a) (n := b * c) (l := l); omega))⟩
      refine S.q (Qt.idxM Try.runUnderlying26 Try.sizeOf45 rfl (Src.ro 1 rfl) rfl (by first | omega | (have h_ := Sh.pub_len (s := e.a) (n := b * c) (l := l); omega)) (by first | omega | (have h_ := Sh.pub_len (s := e.a) (n := b * c) (l := l); omega))) rfl ?_
      refine S.p (Pu.fieldAddr (off' := voff lv + ((k : Int)).toNat * 7 + 0) Try.runUnderlying45 rfl Try.sizeOf3 rfl rfl rfl) rfl ?_
      refine S.q (Qt.ld rfl (Cel.eltM (Src.ro 1 rfl) he19) (o := (voff lv + k * 7)) (off := 0) (by omega) (Cut.one Try.isAgg3 rfl)) rfl ?_
      refine S.p (Pu.eql rfl rfl) rfl ?_
      refine S.p (Pu.move rfl) rfl ?_
      refine by_bool (decide (e19.kind = 1)) (fun h20 => ?_) (fun h20 => ?_)
      ·
       have p21 := of_decide_eq_true h20
       refine S.gq (t := 50) rfl rfl h20 rfl (Pu.qt (Pu.move rfl)) rfl ?_
       refine S.gq (t := 50) rfl rfl h20 rfl (Pu.qt (Pu.move rfl)) rfl ?_
       refine S.gq (t := 50) rfl rfl h20 rfl (Qt.idxM Try.runUnderlying26 Try.sizeOf45 rfl (Src.ro 1 rfl) rfl (by first | omega | (have h_ := Sh.pub_len (s := e.a) (n := b * c) (l := l); omega)) (by first | omega | (have h_ := Sh.pub_len (s := e.a) (n := b * c) (l := l); omega))) rfl ?_
       refine S.gq (t := 50) rfl rfl h20 rfl (Pu.qt (Pu.fieldAddr (off' := voff lv + ((k : Int)).toNat * 7 + 2) Try.runUnderlying45 rfl Try.sizeOf3 rfl rfl rfl)) rfl ?_
       refine S.gq (t := 50) rfl rfl h20 rfl (Qt.ld rfl (Cel.eltM (Src.ro 1 rfl) he19) (o := (voff lv + k * 7)) (off := 2) (by omega) (Cut.one Try.isAgg3 rfl)) rfl ?_
       refine S.gq (t := 50) rfl rfl h20 rfl (Pu.qt (Pu.fieldAddr (off' := 2) Try.runUnderlying45 rfl Try.sizeOf3 rfl rfl rfl)) rfl ?_
       refine S.gq (t := 50) rfl rfl h20 rfl (Qt.ld rfl (Cel.var 0 rfl) (o := 0) (off := 2) rfl (Cut.one Try.isAgg3 rfl)) rfl ?_
       refine S.gq (t := 50) rfl rfl h20 rfl (Pu.qt (Pu.eql rfl rfl)) rfl ?_
       refine S.p (Pu.pickT rfl h20 rfl) rfl ?_
       refine S.p (Pu.move rfl) rfl ?_
       refine by_bool (decide (e19.s = e.s)) (fun h22 => ?_) (fun h22 => ?_)
       ·
        have p23 := of_decide_eq_true h22
        refine S.gq (t := 60) rfl rfl h22 rfl (Pu.qt (Pu.move rfl)) rfl ?_
        refine S.gq (t := 60) rfl rfl h22 rfl (Pu.qt (Pu.move rfl)) rfl ?_
        refine S.gq (t := 60) rfl rfl h22 rfl (Qt.idxM Try.runUnderlying26 Try.sizeOf45 rfl (Src.ro 1 rfl) rfl (by first | omega | (have h_ := Sh.pub_len (s := e.a) (n := b * c) (l := l); omega)) (by first | omega | (have h_ := Sh.pub_len (s := e.a) (n := b * c) (l := l); omega))) rfl ?_
        refine S.gq (t := 60) rfl rfl h22 rfl (Pu.qt (Pu.fieldAddr (off' := voff lv + ((k : Int)).toNat * 7 + 3) Try.runUnderlying45 rfl Try.sizeOf3 rfl rfl rfl)) rfl ?_
        refine S.gq (t := 60) rfl rfl h22 rfl (Qt.ld rfl (Cel.eltM (Src.ro 1 rfl) he19) (o := (voff lv + k * 7)) (off := 3) (by omega) (Cut.one Try.isAgg3 rfl)) rfl ?_
        refine S.gq (t := 60) rfl rfl h22 rfl (Pu.qt (Pu.fieldAddr (off' := 3) Try.runUnderlying45 rfl Try.sizeOf3 rfl rfl rfl)) rfl ?_
        refine S.gq (t := 60) rfl rfl h22 rfl (Qt.ld rfl (Cel.var 0 rfl) (o := 0) (off := 3) rfl (Cut.one Try.isAgg3 rfl)) rfl ?_
        refine S.gq (t := 60) rfl rfl h22 rfl (Pu.qt (Pu.eql rfl rfl)) rfl ?_
        refine S.p (Pu.pickT rfl h22 rfl) rfl ?_
        refine S.endJ ?_
        refine J.cond rfl (fun h24 => ?_) (fun h24 => ?_)
        ·
         have p25 := of_decide_eq_true h24
         refine J.seq ?_
         refine J.region ?_
         refine O.p (Pu.move rfl) rfl ?_
         refine O.p (Pu.move rfl) rfl ?_
         refine O.q (Qt.idxM Try.runUnderlying26 Try.sizeOf45 rfl (Src.ro 1 rfl) rfl (by first | omega | (have h_ := Sh.pub_len (s := e.a) (n := b * c) (l := l); omega)) (by first | omega | (have h_ := Sh.pub_len (s := e.a) (n := b * c) (l := l); omega))) rfl ?_
         refine O.p (Pu.fieldAddr (off' := voff lv + ((k : Int)).toNat * 7 + 5) Try.runUnderlying45 rfl Try.sizeOf3 rfl rfl rfl) rfl ?_
         refine O.q (Qt.ld rfl (Cel.eltM (Src.ro 1 rfl) he19) (o := (voff lv + k * 7)) (off := 5) (by omega) (Cut.one Try.isAgg3 rfl)) rfl ?_
         refine O.p (Pu.assign rfl) rfl ?_
         refine O.nil ?_
         refine J.region ?_
         refine O.p (Pu.assign rfl) rfl ?_
         refine O.nil ?_
         refine J.blk ?_
         refine J.region ?_
         refine O.p (Pu.move rfl) rfl ?_
         refine O.p (Pu.add' rfl rfl (by first | omega | (have h_ := Sh.mul_bnd hb hc; omega) | (have h_ := Sh.pub_len (s := e.a) (n := b * c) (l := l); omega))) rfl ?_
         refine O.p (Pu.assign rfl) rfl ?_
         refine O.nil ?_
         exact J.lp ⟨k + 1, e19.a, true⟩ (show (k + 1) ≤ l.length ∧ (e19.a, true) = Sh.ask e.s e.id (l.take (k + 1)) from ⟨by omega, (Sh.ask_yes he19 (by omega) (by omega) (by omega)).symm⟩) (show l.length - (k + 1) < l.length - k from (by first | omega | (have h_ := Sh.pub_len (s := e.a) (n := b * c) (l := l); omega))) ⟨rfl, rfl, rfl, rfl, rfl, rfl, (congrArg (fun z => some (Value.int .i64 z)) (by first | rfl | omega : ((k : Int) + 1 : Int) = ((k + 1) : Int))), trivial⟩ [0, 1] (by decide) rfl
        ·
         have p26 := of_decide_eq_false h24
         refine J.skip ?_
         refine J.blk ?_
         refine J.region ?_
         refine O.p (Pu.move rfl) rfl ?_
         refine O.p (Pu.add' rfl rfl (by first | omega | (have h_ := Sh.mul_bnd hb hc; omega) | (have h_ := Sh.pub_len (s := e.a) (n := b * c) (l := l); omega))) rfl ?_
         refine O.p (Pu.assign rfl) rfl ?_
         refine O.nil ?_
         exact J.lp ⟨k + 1, n, o⟩ (show (k + 1) ≤ l.length ∧ (n, o) = Sh.ask e.s e.id (l.take (k + 1)) from ⟨by omega, hst.trans (Sh.ask_no he19 (by omega)).symm⟩) (show l.length - (k + 1) < l.length - k from (by first | omega | (have h_ := Sh.pub_len (s := e.a) (n := b * c) (l := l); omega))) ⟨rfl, rfl, rfl, rfl, rfl, rfl, (congrArg (fun z => some (Value.int .i64 z)) (by first | rfl | omega : ((k : Int) + 1 : Int) = ((k + 1) : Int))), trivial⟩ [0, 1] (by decide) rfl
       ·
        have p27 := of_decide_eq_false h22
        refine S.gskip (t := 60) rfl rfl (no_bool (by rw [h22]; decide)) rfl rfl ?_
        refine S.gskip (t := 60) rfl rfl (no_bool (by rw [h22]; decide)) rfl rfl ?_
        refine S.gskip (t := 60) rfl rfl (no_bool (by rw [h22]; decide)) rfl rfl ?_
        refine S.gskip (t := 60) rfl rfl (no_bool (by rw [h22]; decide)) rfl rfl ?_
        refine S.gskip (t := 60) rfl rfl (no_bool (by rw [h22]; decide)) rfl rfl ?_
        refine S.gskip (t := 60) rfl rfl (no_bool (by rw [h22]; decide)) rfl rfl ?_
        refine S.gskip (t := 60) rfl rfl (no_bool (by rw [h22]; decide)) rfl rfl ?_
        refine S.gskip (t := 60) rfl rfl (no_bool (by rw [h22]; decide)) rfl rfl ?_
        refine S.p (Pu.pickF rfl h22 rfl) rfl ?_
        refine S.endJ ?_
        refine J.condF rfl rfl ?_
        refine J.skip ?_
        refine J.blk ?_
        refine J.region ?_
        refine O.p (Pu.move rfl) rfl ?_
        refine O.p (Pu.add' rfl rfl (by first | omega | (have h_ := Sh.mul_bnd hb hc; omega) | (have h_ := Sh.pub_len (s := e.a) (n := b * c) (l := l); omega))) rfl ?_
        refine O.p (Pu.assign rfl) rfl ?_
        refine O.nil ?_
        exact J.lp ⟨k + 1, n, o⟩ (show (k + 1) ≤ l.length ∧ (n, o) = Sh.ask e.s e.id (l.take (k + 1)) from ⟨by omega, hst.trans (Sh.ask_no he19 (by omega)).symm⟩) (show l.length - (k + 1) < l.length - k from (by first | omega | (have h_ := Sh.pub_len (s := e.a) (n := b * c) (l := l); omega))) ⟨rfl, rfl, rfl, rfl, rfl, rfl, (congrArg (fun z => some (Value.int .i64 z)) (by first | rfl | omega : ((k : Int) + 1 : Int) = ((k + 1) : Int))), trivial⟩ [0, 1] (by decide) rfl
      ·
       have p28 := of_decide_eq_false h20
       refine S.gskip (t := 50) rfl rfl (no_bool (by rw [h20]; decide)) rfl rfl ?_
       refine S.gskip (t := 50) rfl rfl (no_bool (by rw [h20]; decide)) rfl rfl ?_
       refine S.gskip (t := 50) rfl rfl (no_bool (by rw [h20]; decide)) rfl rfl ?_
       refine S.gskip (t := 50) rfl rfl (no_bool (by rw [h20]; decide)) rfl rfl ?_
       refine S.gskip (t := 50) rfl rfl (no_bool (by rw [h20]; decide)) rfl rfl ?_
       refine S.gskip (t := 50) rfl rfl (no_bool (by rw [h20]; decide)) rfl rfl ?_
       refine S.gskip (t := 50) rfl rfl (no_bool (by rw [h20]; decide)) rfl rfl ?_
       refine S.gskip (t := 50) rfl rfl (no_bool (by rw [h20]; decide)) rfl rfl ?_
       refine S.p (Pu.pickF rfl h20 rfl) rfl ?_
       refine S.p (Pu.move rfl) rfl ?_
       refine S.gskip (t := 60) rfl rfl (no_bool (by decide)) rfl rfl ?_
       refine S.gskip (t := 60) rfl rfl (no_bool (by decide)) rfl rfl ?_
       refine S.gskip (t := 60) rfl rfl (no_bool (by decide)) rfl rfl ?_
       refine S.gskip (t := 60) rfl rfl (no_bool (by decide)) rfl rfl ?_
       refine S.gskip (t := 60) rfl rfl (no_bool (by decide)) rfl rfl ?_
       refine S.gskip (t := 60) rfl rfl (no_bool (by decide)) rfl rfl ?_
       refine S.gskip (t := 60) rfl rfl (no_bool (by decide)) rfl rfl ?_
       refine S.gskip (t := 60) rfl rfl (no_bool (by decide)) rfl rfl ?_
       refine S.p (Pu.pickF rfl rfl rfl) rfl ?_
       refine S.endJ ?_
       refine J.condF rfl rfl ?_
       refine J.skip ?_
       refine J.blk ?_
       refine J.region ?_
       refine O.p (Pu.move rfl) rfl ?_
       refine O.p (Pu.add' rfl rfl (by first | omega | (have h_ := Sh.mul_bnd hb hc; omega) | (have h_ := Sh.pub_len (s := e.a) (n := b * c) (l := l); omega))) rfl ?_
       refine O.p (Pu.assign rfl) rfl ?_
       refine O.nil ?_
       exact J.lp ⟨k + 1, n, o⟩ (show (k + 1) ≤ l.length ∧ (n, o) = Sh.ask e.s e.id (l.take (k + 1)) from ⟨by omega, hst.trans (Sh.ask_no he19 (by omega)).symm⟩) (show l.length - (k + 1) < l.length - k from (by first | omega | (have h_ := Sh.pub_len (s := e.a) (n := b * c) (l := l); omega))) ⟨rfl, rfl, rfl, rfl, rfl, rfl, (congrArg (fun z => some (Value.int .i64 z)) (by first | rfl | omega : ((k : Int) + 1 : Int) = ((k + 1) : Int))), trivial⟩ [0, 1] (by decide) rfl
     ·
      have p29 := of_decide_eq_false h17
      refine J.exit _ rfl ?_
      refine J.seq ?_
      refine J.drawMix [(0, false), (1, false), (2, false), (3, false), (4, false), (5, false), (6, false), (7, false), (8, false), (9, false), (10, false), (11, false), (12, false), (13, false), (14, false), (15, false), (16, false), (17, false), (18, true), (19, true), (20, false)] [0, 1] [var g3 [.int .i64 e.kind, .int .i64 e.tick, .int .i64 e.s, .int .i64 e.id, .int .i64 e.code, .int .i64 e.a, .int .i64 e.b] 45, var g1 [.int .i64 b, .int .i64 c, .int .i64 r, .int .u64 key, sv] 25] Try.mixed (by kernel_rfl) (by decide) rfl ?_
      refine Mx.p rfl (Pu.fieldAddr (off' := 2) Try.runUnderlying45 rfl Try.sizeOf3 rfl rfl rfl) rfl ?_
      refine Mx.q rfl (Qt.ld rfl (Cel.var 0 rfl) (o := 0) (off := 2) rfl (Cut.one Try.isAgg3 rfl)) rfl ?_
      refine Mx.p rfl (Pu.fieldAddr (off' := 5) Try.runUnderlying45 rfl Try.sizeOf3 rfl rfl rfl) rfl ?_
      refine Mx.q rfl (Qt.ld rfl (Cel.var 0 rfl) (o := 0) (off := 5) rfl (Cut.one Try.isAgg3 rfl)) rfl ?_
      refine Mx.p rfl (Pu.fieldAddr (off' := 4) Try.runUnderlying25 rfl Try.sizeOf23 rfl rfl rfl) rfl ?_
      refine Mx.q rfl (Qt.ld rfl (Cel.var 1 rfl) (o := 0) (off := 4) rfl (Cut.one Try.isAgg23 rfl)) rfl ?_
      refine Mx.p rfl (Pu.fieldAddr (off' := 2) Try.runUnderlying45 rfl Try.sizeOf3 rfl rfl rfl) rfl ?_
      refine Mx.q rfl (Qt.ld rfl (Cel.var 0 rfl) (o := 0) (off := 2) rfl (Cut.one Try.isAgg3 rfl)) rfl ?_
      obtain ⟨e30, he30⟩ : ∃ x_, SS[(e.s).toNat]? = some x_ := ⟨_, List.getElem?_eq_getElem (by first | omega | (have h_ := Sh.pub_len (s := e.a) (n := b * c) (l := l); omega))⟩
      refine Mx.q rfl (Qt.idxM Try.runUnderlying23 Try.sizeOf66 rfl (Src.ro 0 rfl) rfl (by first | omega | (have h_ := Sh.pub_len (s := e.a) (n := b * c) (l := l); omega)) (by first | omega | (have h_ := Sh.pub_len (s := e.a) (n := b * c) (l := l); omega))) rfl ?_
      refine Mx.p rfl (Pu.fieldAddr (off' := voff sv + (e.s).toNat * 14 + 5) Try.runUnderlying66 rfl Try.sizeOf3 rfl rfl rfl) rfl ?_
      refine Mx.q rfl (Qt.ld rfl (Cel.eltM (Src.ro 0 rfl) he30) (o := (voff sv + ((e.s).toNat) * 14)) (off := 5) (by omega) (Cut.one Try.isAgg3 rfl)) rfl ?_
      refine Mx.p rfl (Pu.fieldAddr (off' := 1) Try.runUnderlying45 rfl Try.sizeOf3 rfl rfl rfl) rfl ?_
      refine Mx.q rfl (Qt.ld rfl (Cel.var 0 rfl) (o := 0) (off := 1) rfl (Cut.one Try.isAgg3 rfl)) rfl ?_
      refine Mx.p rfl (Pu.move rfl) rfl ?_
      refine Mx.call (vs := [.int .i64 e.s, .int .i64 e.a, .int .i64 e30.ttl, .int .i64 e.tick, lv]) (caps := []) rfl (by exact Try.call6) rfl rfl (r43_Told e.s e.a e30.ttl e.tick lv l (by omega)) (fun _ _ h => h) (RoOk.ro 1 rfl [] rfl RoOk.nil) rfl ?_
      refine Mx.p rfl (Pu.move rfl) rfl ?_
      refine Mx.p rfl (Pu.extract rfl rfl) rfl ?_
      refine Mx.p rfl (Pu.extract rfl rfl) rfl ?_
      refine Mx.l rfl (Lo.alloc [.int .i64 0, .int .i64 0, .int .i64 0, .int .i64 0] (by exact Try.zeroValue30) rfl) rfl ?_
      rintro _ _ ⟨g31, rfl, rfl⟩
      refine MxK.go [1, 2] [0, 1] [var g3 [.int .i64 e.kind, .int .i64 e.tick, .int .i64 e.s, .int .i64 e.id, .int .i64 e.code, .int .i64 e.a, .int .i64 e.b] 45, var g1 [.int .i64 b, .int .i64 c, .int .i64 r, .int .u64 key, sv] 25] (by decide) rfl (by decide) rfl ?_
      refine Mx.l0 rfl (Lo.store 0 (vs := [.int .i64 (((Sh.told e.s e.a e30.ttl e.tick l).1).to), .int .i64 (((Sh.told e.s e.a e30.ttl e.tick l).1).thr), .int .i64 (((Sh.told e.s e.a e30.ttl e.tick l).1).ep), .int .i64 (((Sh.told e.s e.a e30.ttl e.tick l).1).at_)]) [.int .i64 (((Sh.told e.s e.a e30.ttl e.tick l).1).to), .int .i64 (((Sh.told e.s e.a e30.ttl e.tick l).1).thr), .int .i64 (((Sh.told e.s e.a e30.ttl e.tick l).1).ep), .int .i64 (((Sh.told e.s e.a e30.ttl e.tick l).1).at_)] rfl rfl rfl (by exact Try.sizeOf30) rfl rfl rfl rfl rfl) ?_
      rintro _ _ rfl
      refine MxK.go [1, 2] [0, 1] [var g3 [.int .i64 e.kind, .int .i64 e.tick, .int .i64 e.s, .int .i64 e.id, .int .i64 e.code, .int .i64 e.a, .int .i64 e.b] 45, var g1 [.int .i64 b, .int .i64 c, .int .i64 r, .int .u64 key, sv] 25] (by decide) rfl (by decide) rfl ?_
      refine Mx.p rfl (Pu.assign rfl) rfl ?_
      refine Mx.nil ?_
      refine J.seq ?_
      refine J.seq ?_
      refine J.region ?_
      refine O.p (Pu.move rfl) rfl ?_
      refine O.p (Pu.not rfl) rfl ?_
      refine O.p (Pu.move rfl) rfl ?_
      refine by_bool (!o) (fun h32 => ?_) (fun h32 => ?_)
      ·
       have h33 : o = false := not_flip h32
       refine O.gskip (t := 95) rfl rfl (no_bool (by rw [h32]; decide)) rfl rfl ?_
       refine O.gskip (t := 95) rfl rfl (no_bool (by rw [h32]; decide)) rfl rfl ?_
       refine O.p (Pu.pickT rfl h32 rfl) rfl ?_
       refine O.p (Pu.move rfl) rfl ?_
       refine O.gskip (t := 99) rfl rfl (no_bool (by decide)) rfl rfl ?_
       refine O.gskip (t := 99) rfl rfl (no_bool (by decide)) rfl rfl ?_
       refine O.gskip (t := 99) rfl rfl (no_bool (by decide)) rfl rfl ?_
       refine O.gskip (t := 102) rfl rfl (no_undef _) rfl rfl ?_
       refine O.gskip (t := 102) rfl rfl (no_undef _) rfl rfl ?_
       refine O.gskip (t := 102) rfl rfl (no_undef _) rfl rfl ?_
       refine O.gskip (t := 102) rfl rfl (no_undef _) rfl rfl ?_
       refine O.gskip (t := 99) rfl rfl (no_bool (by decide)) rfl rfl ?_
       refine O.p (Pu.pickT rfl rfl rfl) rfl ?_
       refine O.nil ?_
       refine J.condT rfl rfl ?_
       refine J.seq ?_
       refine J.region ?_
       refine O.p (Pu.assign rfl) rfl ?_
       refine O.nil ?_
       exact J.ret (Fin.ret (rs := [.tmp 6]) rfl [_] ⟨rfl, trivial⟩ [] (by decide) [] rfl ⟨(by have hq_ : Sh.ask e.s e.id l = (n, o) := (by rw [hst, List.take_of_length_le (by omega)]); rw [Sh.wrong_in (by omega)]; simp [vOf, Sh.bad2, Sh.passes, Sh.tOf_at he30, hq_, *]), rfl⟩)
      ·
       have h34 : o = true := not_flip h32
       refine O.gq (t := 95) rfl rfl h32 rfl (Pu.qt (Pu.move rfl)) rfl ?_
       refine O.gq (t := 95) rfl rfl h32 rfl (Pu.qt (Pu.not rfl)) rfl ?_
       refine O.p (Pu.pickF rfl h32 rfl) rfl ?_
       refine O.p (Pu.move rfl) rfl ?_
       refine by_bool (!((Sh.told e.s e.a e30.ttl e.tick l).2)) (fun h35 => ?_) (fun h35 => ?_)
       ·
        have h36 : ((Sh.told e.s e.a e30.ttl e.tick l).2) = false := not_flip h35
        refine O.gskip (t := 99) rfl rfl (no_bool (by rw [h35]; decide)) rfl rfl ?_
        refine O.gskip (t := 99) rfl rfl (no_bool (by rw [h35]; decide)) rfl rfl ?_
        refine O.gskip (t := 99) rfl rfl (no_bool (by rw [h35]; decide)) rfl rfl ?_
        refine O.gskip (t := 102) rfl rfl (no_undef _) rfl rfl ?_
        refine O.gskip (t := 102) rfl rfl (no_undef _) rfl rfl ?_
        refine O.gskip (t := 102) rfl rfl (no_undef _) rfl rfl ?_
        refine O.gskip (t := 102) rfl rfl (no_undef _) rfl rfl ?_
        refine O.gskip (t := 99) rfl rfl (no_bool (by rw [h35]; decide)) rfl rfl ?_
        refine O.p (Pu.pickT rfl h35 rfl) rfl ?_
        refine O.nil ?_
        refine J.condT rfl rfl ?_
        refine J.seq ?_
        refine J.region ?_
        refine O.p (Pu.assign rfl) rfl ?_
        refine O.nil ?_
        exact J.ret (Fin.ret (rs := [.tmp 6]) rfl [_] ⟨rfl, trivial⟩ [] (by decide) [] rfl ⟨(by have hq_ : Sh.ask e.s e.id l = (n, o) := (by rw [hst, List.take_of_length_le (by omega)]); rw [Sh.wrong_in (by omega)]; simp [vOf, Sh.bad2, Sh.passes, Sh.tOf_at he30, hq_, *]), rfl⟩)
       ·
        have h37 : ((Sh.told e.s e.a e30.ttl e.tick l).2) = true := not_flip h35
        refine O.gq (t := 99) rfl rfl h35 rfl (Pu.qt (Pu.move rfl)) rfl ?_
        refine O.gq (t := 99) rfl rfl h35 rfl (Pu.qt (Pu.geq rfl rfl)) rfl ?_
        refine O.gq (t := 99) rfl rfl h35 rfl (Pu.qt (Pu.move rfl)) rfl ?_
        refine by_bool (decide (0 ≤ n)) (fun h38 => ?_) (fun h38 => ?_)
        ·
         have p39 := of_decide_eq_true h38
         refine O.gq (t := 102) rfl rfl h38 rfl (Pu.qt (Pu.move rfl)) rfl ?_
         refine O.gq (t := 102) rfl rfl h38 rfl (Pu.qt (Pu.fieldAddr (off' := 1) Try.runUnderlying30 rfl Try.sizeOf3 rfl rfl rfl)) rfl ?_
         refine O.gq (t := 102) rfl rfl h38 rfl (Qt.ld rfl (Cel.var 0 rfl) (o := 0) (off := 1) rfl (Cut.one Try.isAgg3 rfl)) rfl ?_
         refine O.gq (t := 102) rfl rfl h38 rfl (Pu.qt (Pu.lss rfl rfl)) rfl ?_
         refine O.gq (t := 99) rfl rfl h35 rfl (Pu.qt (Pu.pickT rfl h38 rfl)) rfl ?_
         refine O.p (Pu.pickF rfl h35 rfl) rfl ?_
         refine O.nil ?_
         refine J.cond rfl (fun h40 => ?_) (fun h40 => ?_)
         ·
          have p41 := of_decide_eq_true h40
          refine J.seq ?_
          refine J.region ?_
          refine O.p (Pu.assign rfl) rfl ?_
          refine O.nil ?_
          exact J.ret (Fin.ret (rs := [.tmp 6]) rfl [_] ⟨rfl, trivial⟩ [] (by decide) [] rfl ⟨(by have hq_ : Sh.ask e.s e.id l = (n, o) := (by rw [hst, List.take_of_length_le (by omega)]); rw [Sh.wrong_in (by omega)]; simp [vOf, Sh.bad2, Sh.passes, Sh.tOf_at he30, hq_, *]), rfl⟩)
         ·
          have p42 := of_decide_eq_false h40
          refine J.skip ?_
          refine J.seq ?_
          refine J.region ?_
          refine O.p (Pu.fieldAddr (off' := 5) Try.runUnderlying45 rfl Try.sizeOf3 rfl rfl rfl) rfl ?_
          refine O.q (Qt.ld rfl (Cel.var 1 rfl) (o := 0) (off := 5) rfl (Cut.one Try.isAgg3 rfl)) rfl ?_
          refine O.p (Pu.fieldAddr (off' := 0) Try.runUnderlying25 rfl Try.sizeOf3 rfl rfl rfl) rfl ?_
          refine O.q (Qt.ld rfl (Cel.var 2 rfl) (o := 0) (off := 0) rfl (Cut.one Try.isAgg3 rfl)) rfl ?_
          refine O.p (Pu.fieldAddr (off' := 1) Try.runUnderlying25 rfl Try.sizeOf3 rfl rfl rfl) rfl ?_
          refine O.q (Qt.ld rfl (Cel.var 2 rfl) (o := 0) (off := 1) rfl (Cut.one Try.isAgg3 rfl)) rfl ?_
          refine O.p (Pu.mul' rfl rfl (by first | omega | (have h_ := Sh.mul_bnd hb hc; omega) | (have h_ := Sh.pub_len (s := e.a) (n := b * c) (l := l); omega))) rfl ?_
          refine O.p (Pu.move rfl) rfl ?_
          refine O.l (Lo.call [.int .i64 e.a, .int .i64 (b * c), lv] (by exact Try.call11) rfl (r43_Published e.a (b * c) lv l (by omega)) [] [0, 1, 2] (by decide) rfl [var g31 [.int .i64 (((Sh.told e.s e.a e30.ttl e.tick l).1).to), .int .i64 (((Sh.told e.s e.a e30.ttl e.tick l).1).thr), .int .i64 (((Sh.told e.s e.a e30.ttl e.tick l).1).ep), .int .i64 (((Sh.told e.s e.a e30.ttl e.tick l).1).at_)] 30, var g3 [.int .i64 e.kind, .int .i64 e.tick, .int .i64 e.s, .int .i64 e.id, .int .i64 e.code, .int .i64 e.a, .int .i64 e.b] 45, var g1 [.int .i64 b, .int .i64 c, .int .i64 r, .int .u64 key, sv] 25] rfl (RoOk.ro 1 rfl [] rfl RoOk.nil)) rfl ?_
          rintro v43 _ ⟨_, rfl, rfl⟩
          refine O.p (Pu.assign rfl) rfl ?_
          refine O.nil ?_
          refine J.seq ?_
          refine J.seq ?_
          refine J.region ?_
          refine O.p (Pu.assign rfl) rfl ?_
          refine O.nil ?_
          refine J.block ?_
          refine J.loop (X := Nat) (fun ξ => ξ ≤ (Sh.pub e.a (b * c) l).length ∧ ∀ (j : Nat) (q : Kw), j < ξ → (Sh.pub e.a (b * c) l)[j]? = some q → ¬ (q.thr = (Sh.told e.s e.a e30.ttl e.tick l).1.thr ∧ q.ep = (Sh.told e.s e.a e30.ttl e.tick l).1.ep)) (fun ξ => [(10, .pointer (some ⟨g31, 0, none⟩)), (12, v43), (13, .int .i64 (ξ : Int))]) (fun ξ => [row v43 30 4 ((Sh.pub e.a (b * c) l).map Kw.cells), var g31 [.int .i64 (((Sh.told e.s e.a e30.ttl e.tick l).1).to), .int .i64 (((Sh.told e.s e.a e30.ttl e.tick l).1).thr), .int .i64 (((Sh.told e.s e.a e30.ttl e.tick l).1).ep), .int .i64 (((Sh.told e.s e.a e30.ttl e.tick l).1).at_)] 30]) (fun ξ => (Sh.pub e.a (b * c) l).length - ξ) 0 (show 0 ≤ (Sh.pub e.a (b * c) l).length ∧ ∀ (j : Nat) (q : Kw), j < 0 → (Sh.pub e.a (b * c) l)[j]? = some q → ¬ (q.thr = (Sh.told e.s e.a e30.ttl e.tick l).1.thr ∧ q.ep = (Sh.told e.s e.a e30.ttl e.tick l).1.ep) from ⟨by omega, fun j q h => absurd h (Nat.not_lt_zero j)⟩) ⟨rfl, rfl, (congrArg (fun z => some (Value.int .i64 z)) (by first | rfl | omega : (0 : Int) = (0 : Int))), trivial⟩ [0, 1] (by decide) rfl ?_
          rintro i hq44
          obtain ⟨hi, hno⟩ : i ≤ (Sh.pub e.a (b * c) l).length ∧ ∀ (j : Nat) (q : Kw), j < i → (Sh.pub e.a (b * c) l)[j]? = some q → ¬ (q.thr = (Sh.told e.s e.a e30.ttl e.tick l).1.thr ∧ q.ep = (Sh.told e.s e.a e30.ttl e.tick l).1.ep) := hq44
          show J _ _ [(10, .pointer (some ⟨g31, 0, none⟩)), (12, v43), (13, .int .i64 (i : Int))] [row v43 30 4 ((Sh.pub e.a (b * c) l).map Kw.cells), var g31 [.int .i64 (((Sh.told e.s e.a e30.ttl e.tick l).1).to), .int .i64 (((Sh.told e.s e.a e30.ttl e.tick l).1).thr), .int .i64 (((Sh.told e.s e.a e30.ttl e.tick l).1).ep), .int .i64 (((Sh.told e.s e.a e30.ttl e.tick l).1).at_)] 30]
          refine J.seq ?_
          refine J.seq ?_
          refine J.region ?_
          refine O.p (Pu.move rfl) rfl ?_
          refine O.p (Pu.move rfl) rfl ?_
          refine O.q (Qt.lenM Try.runUnderlying38 rfl (Src.row 0 rfl)) rfl ?_
          refine O.p (Pu.lss rfl rfl) rfl ?_
          refine O.nil ?_
          refine J.cond rfl (fun h45 => ?_) (fun h45 => ?_)
          ·
           have p46 := of_decide_eq_true h45
           refine J.skip ?_
           refine J.seq ?_
           refine J.block ?_
           refine J.seq ?_
           refine J.drawStill Try.mixed (by kernel_rfl) ?_
           refine S.p (Pu.move rfl) rfl ?_
           refine S.p (Pu.move rfl) rfl ?_
           obtain ⟨e47, he47⟩ : ∃ x_, (Sh.pub e.a (b * c) l)[i]? = some x_ := ⟨_, List.getElem?_eq_getElem (by first | omega | (have h_ := Sh.pub_len (s := e.a) (n := b * c) (l := l); omega))⟩
           refine S.q (Qt.idxM Try.runUnderlying38 Try.sizeOf30 rfl (Src.row 0 rfl) rfl (by first | omega | (have h_ := Sh.pub_len (s := e.a) (n := b * c) (l := l); omega)) (by first | omega | (have h_ := Sh.pub_len (s := e.a) (n := b * c) (l := l); omega))) rfl ?_
           refine S.p (Pu.fieldAddr (off' := voff v43 + ((i : Int)).toNat * 4 + 1) Try.runUnderlying30 rfl Try.sizeOf3 rfl rfl rfl) rfl ?_
           refine S.q (Qt.ld rfl (Cel.eltM (Src.row 0 rfl) he47) (o := (voff v43 + i * 4)) (off := 1) (by omega) (Cut.one Try.isAgg3 rfl)) rfl ?_
           refine S.p (Pu.fieldAddr (off' := 1) Try.runUnderlying30 rfl Try.sizeOf3 rfl rfl rfl) rfl ?_
           refine S.q (Qt.ld rfl (Cel.var 1 rfl) (o := 0) (off := 1) rfl (Cut.one Try.isAgg3 rfl)) rfl ?_
           refine S.p (Pu.eql rfl rfl) rfl ?_
           refine S.p (Pu.move rfl) rfl ?_
           refine by_bool (decide (e47.thr = (((Sh.told e.s e.a e30.ttl e.tick l).1).thr))) (fun h48 => ?_) (fun h48 => ?_)
           ·
            have p49 := of_decide_eq_true h48
            refine S.gq (t := 132) rfl rfl h48 rfl (Pu.qt (Pu.move rfl)) rfl ?_
            refine S.gq (t := 132) rfl rfl h48 rfl (Pu.qt (Pu.move rfl)) rfl ?_
            refine S.gq (t := 132) rfl rfl h48 rfl (Qt.idxM Try.runUnderlying38 Try.sizeOf30 rfl (Src.row 0 rfl) rfl (by first | omega | (have h_ := Sh.pub_len (s := e.a) (n := b * c) (l := l); omega)) (by first | omega | (have h_ := Sh.pub_len (s := e.a) (n := b * c) (l := l); omega))) rfl ?_
            refine S.gq (t := 132) rfl rfl h48 rfl (Pu.qt (Pu.fieldAddr (off' := voff v43 + ((i : Int)).toNat * 4 + 2) Try.runUnderlying30 rfl Try.sizeOf3 rfl rfl rfl)) rfl ?_
            refine S.gq (t := 132) rfl rfl h48 rfl (Qt.ld rfl (Cel.eltM (Src.row 0 rfl) he47) (o := (voff v43 + i * 4)) (off := 2) (by omega) (Cut.one Try.isAgg3 rfl)) rfl ?_
            refine S.gq (t := 132) rfl rfl h48 rfl (Pu.qt (Pu.fieldAddr (off' := 2) Try.runUnderlying30 rfl Try.sizeOf3 rfl rfl rfl)) rfl ?_
            refine S.gq (t := 132) rfl rfl h48 rfl (Qt.ld rfl (Cel.var 1 rfl) (o := 0) (off := 2) rfl (Cut.one Try.isAgg3 rfl)) rfl ?_
            refine S.gq (t := 132) rfl rfl h48 rfl (Pu.qt (Pu.eql rfl rfl)) rfl ?_
            refine S.p (Pu.pickT rfl h48 rfl) rfl ?_
            refine S.endJ ?_
            refine J.cond rfl (fun h50 => ?_) (fun h50 => ?_)
            ·
             have p51 := of_decide_eq_true h50
             refine J.seq ?_
             refine J.region ?_
             refine O.p (Pu.assign rfl) rfl ?_
             refine O.nil ?_
             exact J.ret (Fin.ret (rs := [.tmp 6]) rfl [_] ⟨rfl, trivial⟩ [] (by decide) [] rfl ⟨(by have hq_ : Sh.ask e.s e.id l = (n, o) := (by rw [hst, List.take_of_length_le (by omega)]); have hp_ := Sh.hasP_yes (x := (Sh.told e.s e.a e30.ttl e.tick l).1) he47 ‹_› ‹_›; rw [Sh.wrong_in (by omega)]; simp [vOf, Sh.bad2, Sh.passes, Sh.tOf_at he30, hq_, hp_, *]), rfl⟩)
            ·
             have p52 := of_decide_eq_false h50
             refine J.skip ?_
             refine J.blk ?_
             refine J.region ?_
             refine O.p (Pu.move rfl) rfl ?_
             refine O.p (Pu.add' rfl rfl (by first | omega | (have h_ := Sh.mul_bnd hb hc; omega) | (have h_ := Sh.pub_len (s := e.a) (n := b * c) (l := l); omega))) rfl ?_
             refine O.p (Pu.assign rfl) rfl ?_
             refine O.nil ?_
             exact J.lp (i + 1) (show (i + 1) ≤ (Sh.pub e.a (b * c) l).length ∧ ∀ (j : Nat) (q : Kw), j < (i + 1) → (Sh.pub e.a (b * c) l)[j]? = some q → ¬ (q.thr = (Sh.told e.s e.a e30.ttl e.tick l).1.thr ∧ q.ep = (Sh.told e.s e.a e30.ttl e.tick l).1.ep) from ⟨by omega, fun j q hj hq => by rcases Nat.lt_or_ge j i with h_ | h_; (· exact hno j q h_ hq); (· have h2_ : j = i := (by omega); subst h2_; rw [he47] at hq; cases hq; omega)⟩) (show (Sh.pub e.a (b * c) l).length - (i + 1) < (Sh.pub e.a (b * c) l).length - i from (by first | omega | (have h_ := Sh.pub_len (s := e.a) (n := b * c) (l := l); omega))) ⟨rfl, rfl, (congrArg (fun z => some (Value.int .i64 z)) (by first | rfl | omega : ((i : Int) + 1 : Int) = ((i + 1) : Int))), trivial⟩ [0, 1] (by decide) rfl
           ·
            have p53 := of_decide_eq_false h48
            refine S.gskip (t := 132) rfl rfl (no_bool (by rw [h48]; decide)) rfl rfl ?_
            refine S.gskip (t := 132) rfl rfl (no_bool (by rw [h48]; decide)) rfl rfl ?_
            refine S.gskip (t := 132) rfl rfl (no_bool (by rw [h48]; decide)) rfl rfl ?_
            refine S.gskip (t := 132) rfl rfl (no_bool (by rw [h48]; decide)) rfl rfl ?_
            refine S.gskip (t := 132) rfl rfl (no_bool (by rw [h48]; decide)) rfl rfl ?_
            refine S.gskip (t := 132) rfl rfl (no_bool (by rw [h48]; decide)) rfl rfl ?_
            refine S.gskip (t := 132) rfl rfl (no_bool (by rw [h48]; decide)) rfl rfl ?_
            refine S.gskip (t := 132) rfl rfl (no_bool (by rw [h48]; decide)) rfl rfl ?_
            refine S.p (Pu.pickF rfl h48 rfl) rfl ?_
            refine S.endJ ?_
            refine J.condF rfl rfl ?_
            refine J.skip ?_
            refine J.blk ?_
            refine J.region ?_
            refine O.p (Pu.move rfl) rfl ?_
            refine O.p (Pu.add' rfl rfl (by first | omega | (have h_ := Sh.mul_bnd hb hc; omega) | (have h_ := Sh.pub_len (s := e.a) (n := b * c) (l := l); omega))) rfl ?_
            refine O.p (Pu.assign rfl) rfl ?_
            refine O.nil ?_
            exact J.lp (i + 1) (show (i + 1) ≤ (Sh.pub e.a (b * c) l).length ∧ ∀ (j : Nat) (q : Kw), j < (i + 1) → (Sh.pub e.a (b * c) l)[j]? = some q → ¬ (q.thr = (Sh.told e.s e.a e30.ttl e.tick l).1.thr ∧ q.ep = (Sh.told e.s e.a e30.ttl e.tick l).1.ep) from ⟨by omega, fun j q hj hq => by rcases Nat.lt_or_ge j i with h_ | h_; (· exact hno j q h_ hq); (· have h2_ : j = i := (by omega); subst h2_; rw [he47] at hq; cases hq; omega)⟩) (show (Sh.pub e.a (b * c) l).length - (i + 1) < (Sh.pub e.a (b * c) l).length - i from (by first | omega | (have h_ := Sh.pub_len (s := e.a) (n := b * c) (l := l); omega))) ⟨rfl, rfl, (congrArg (fun z => some (Value.int .i64 z)) (by first | rfl | omega : ((i : Int) + 1 : Int) = ((i + 1) : Int))), trivial⟩ [0, 1] (by decide) rfl
          ·
           have p54 := of_decide_eq_false h45
           refine J.exit _ rfl ?_
           refine J.seq ?_
           refine J.region ?_
           refine O.p (Pu.assign rfl) rfl ?_
           refine O.nil ?_
           exact J.ret (Fin.ret (rs := [.tmp 6]) rfl [_] ⟨rfl, trivial⟩ [] (by decide) [] rfl ⟨(by have hq_ : Sh.ask e.s e.id l = (n, o) := (by rw [hst, List.take_of_length_le (by omega)]); have hp_ := Sh.hasP_no (x := (Sh.told e.s e.a e30.ttl e.tick l).1) hno (by omega); rw [Sh.wrong_in (by omega)]; simp [vOf, Sh.bad2, Sh.passes, Sh.tOf_at he30, hq_, hp_, *]), rfl⟩)
        ·
         have p55 := of_decide_eq_false h38
         refine O.gskip (t := 102) rfl rfl (no_bool (by rw [h38]; decide)) rfl rfl ?_
         refine O.gskip (t := 102) rfl rfl (no_bool (by rw [h38]; decide)) rfl rfl ?_
         refine O.gskip (t := 102) rfl rfl (no_bool (by rw [h38]; decide)) rfl rfl ?_
         refine O.gskip (t := 102) rfl rfl (no_bool (by rw [h38]; decide)) rfl rfl ?_
         refine O.gq (t := 99) rfl rfl h35 rfl (Pu.qt (Pu.pickF rfl h38 rfl)) rfl ?_
         refine O.p (Pu.pickF rfl h35 rfl) rfl ?_
         refine O.nil ?_
         refine J.condF rfl rfl ?_
         refine J.skip ?_
         refine J.seq ?_
         refine J.region ?_
         refine O.p (Pu.fieldAddr (off' := 5) Try.runUnderlying45 rfl Try.sizeOf3 rfl rfl rfl) rfl ?_
         refine O.q (Qt.ld rfl (Cel.var 1 rfl) (o := 0) (off := 5) rfl (Cut.one Try.isAgg3 rfl)) rfl ?_
         refine O.p (Pu.fieldAddr (off' := 0) Try.runUnderlying25 rfl Try.sizeOf3 rfl rfl rfl) rfl ?_
         refine O.q (Qt.ld rfl (Cel.var 2 rfl) (o := 0) (off := 0) rfl (Cut.one Try.isAgg3 rfl)) rfl ?_
         refine O.p (Pu.fieldAddr (off' := 1) Try.runUnderlying25 rfl Try.sizeOf3 rfl rfl rfl) rfl ?_
         refine O.q (Qt.ld rfl (Cel.var 2 rfl) (o := 0) (off := 1) rfl (Cut.one Try.isAgg3 rfl)) rfl ?_
         refine O.p (Pu.mul' rfl rfl (by first | omega | (have h_ := Sh.mul_bnd hb hc; omega) | (have h_ := Sh.pub_len (s := e.a) (n := b * c) (l := l); omega))) rfl ?_
         refine O.p (Pu.move rfl) rfl ?_
         refine O.l (Lo.call [.int .i64 e.a, .int .i64 (b * c), lv] (by exact Try.call11) rfl (r43_Published e.a (b * c) lv l (by omega)) [] [0, 1, 2] (by decide) rfl [var g31 [.int .i64 (((Sh.told e.s e.a e30.ttl e.tick l).1).to), .int .i64 (((Sh.told e.s e.a e30.ttl e.tick l).1).thr), .int .i64 (((Sh.told e.s e.a e30.ttl e.tick l).1).ep), .int .i64 (((Sh.told e.s e.a e30.ttl e.tick l).1).at_)] 30, var g3 [.int .i64 e.kind, .int .i64 e.tick, .int .i64 e.s, .int .i64 e.id, .int .i64 e.code, .int .i64 e.a, .int .i64 e.b] 45, var g1 [.int .i64 b, .int .i64 c, .int .i64 r, .int .u64 key, sv] 25] rfl (RoOk.ro 1 rfl [] rfl RoOk.nil)) rfl ?_
         rintro v56 _ ⟨_, rfl, rfl⟩
         refine O.p (Pu.assign rfl) rfl ?_
         refine O.nil ?_
         refine J.seq ?_
         refine J.seq ?_
         refine J.region ?_
         refine O.p (Pu.assign rfl) rfl ?_
         refine O.nil ?_
         refine J.block ?_
         refine J.loop (X := Nat) (fun ξ => ξ ≤ (Sh.pub e.a (b * c) l).length ∧ ∀ (j : Nat) (q : Kw), j < ξ → (Sh.pub e.a (b * c) l)[j]? = some q → ¬ (q.thr = (Sh.told e.s e.a e30.ttl e.tick l).1.thr ∧ q.ep = (Sh.told e.s e.a e30.ttl e.tick l).1.ep)) (fun ξ => [(10, .pointer (some ⟨g31, 0, none⟩)), (12, v56), (13, .int .i64 (ξ : Int))]) (fun ξ => [row v56 30 4 ((Sh.pub e.a (b * c) l).map Kw.cells), var g31 [.int .i64 (((Sh.told e.s e.a e30.ttl e.tick l).1).to), .int .i64 (((Sh.told e.s e.a e30.ttl e.tick l).1).thr), .int .i64 (((Sh.told e.s e.a e30.ttl e.tick l).1).ep), .int .i64 (((Sh.told e.s e.a e30.ttl e.tick l).1).at_)] 30]) (fun ξ => (Sh.pub e.a (b * c) l).length - ξ) 0 (show 0 ≤ (Sh.pub e.a (b * c) l).length ∧ ∀ (j : Nat) (q : Kw), j < 0 → (Sh.pub e.a (b * c) l)[j]? = some q → ¬ (q.thr = (Sh.told e.s e.a e30.ttl e.tick l).1.thr ∧ q.ep = (Sh.told e.s e.a e30.ttl e.tick l).1.ep) from ⟨by omega, fun j q h => absurd h (Nat.not_lt_zero j)⟩) ⟨rfl, rfl, (congrArg (fun z => some (Value.int .i64 z)) (by first | rfl | omega : (0 : Int) = (0 : Int))), trivial⟩ [0, 1] (by decide) rfl ?_
         rintro i hq57
         obtain ⟨hi, hno⟩ : i ≤ (Sh.pub e.a (b * c) l).length ∧ ∀ (j : Nat) (q : Kw), j < i → (Sh.pub e.a (b * c) l)[j]? = some q → ¬ (q.thr = (Sh.told e.s e.a e30.ttl e.tick l).1.thr ∧ q.ep = (Sh.told e.s e.a e30.ttl e.tick l).1.ep) := hq57
         show J _ _ [(10, .pointer (some ⟨g31, 0, none⟩)), (12, v56), (13, .int .i64 (i : Int))] [row v56 30 4 ((Sh.pub e.a (b * c) l).map Kw.cells), var g31 [.int .i64 (((Sh.told e.s e.a e30.ttl e.tick l).1).to), .int .i64 (((Sh.told e.s e.a e30.ttl e.tick l).1).thr), .int .i64 (((Sh.told e.s e.a e30.ttl e.tick l).1).ep), .int .i64 (((Sh.told e.s e.a e30.ttl e.tick l).1).at_)] 30]
         refine J.seq ?_
         refine J.seq ?_
         refine J.region ?_
         refine O.p (Pu.move rfl) rfl ?_
         refine O.p (Pu.move rfl) rfl ?_
         refine O.q (Qt.lenM Try.runUnderlying38 rfl (Src.row 0 rfl)) rfl ?_
         refine O.p (Pu.lss rfl rfl) rfl ?_
         refine O.nil ?_
         refine J.cond rfl (fun h58 => ?_) (fun h58 => ?_)
         ·
          have p59 := of_decide_eq_true h58
          refine J.skip ?_
          refine J.seq ?_
          refine J.block ?_
          refine J.seq ?_
          refine J.drawStill Try.mixed (by kernel_rfl) ?_
          refine S.p (Pu.move rfl) rfl ?_
          refine S.p (Pu.move rfl) rfl ?_
          obtain ⟨e60, he60⟩ : ∃ x_, (Sh.pub e.a (b * c) l)[i]? = some x_ := ⟨_, List.getElem?_eq_getElem (by first | omega | (have h_ := Sh.pub_len (s := e.a) (n := b * c) (l := l); omega))⟩
          refine S.q (Qt.idxM Try.runUnderlying38 Try.sizeOf30 rfl (Src.row 0 rfl) rfl (by first | omega | (have h_ := Sh.pub_len (s := e.a) (n := b * c) (l := l); omega)) (by first | omega | (have h_ := Sh.pub_len (s := e.a) (n := b * c) (l := l); omega))) rfl ?_
          refine S.p (Pu.fieldAddr (off' := voff v56 + ((i : Int)).toNat * 4 + 1) Try.runUnderlying30 rfl Try.sizeOf3 rfl rfl rfl) rfl ?_
          refine S.q (Qt.ld rfl (Cel.eltM (Src.row 0 rfl) he60) (o := (voff v56 + i * 4)) (off := 1) (by omega) (Cut.one Try.isAgg3 rfl)) rfl ?_
          refine S.p (Pu.fieldAddr (off' := 1) Try.runUnderlying30 rfl Try.sizeOf3 rfl rfl rfl) rfl ?_
          refine S.q (Qt.ld rfl (Cel.var 1 rfl) (o := 0) (off := 1) rfl (Cut.one Try.isAgg3 rfl)) rfl ?_
          refine S.p (Pu.eql rfl rfl) rfl ?_
          refine S.p (Pu.move rfl) rfl ?_
          refine by_bool (decide (e60.thr = (((Sh.told e.s e.a e30.ttl e.tick l).1).thr))) (fun h61 => ?_) (fun h61 => ?_)
          ·
           have p62 := of_decide_eq_true h61
           refine S.gq (t := 132) rfl rfl h61 rfl (Pu.qt (Pu.move rfl)) rfl ?_
           refine S.gq (t := 132) rfl rfl h61 rfl (Pu.qt (Pu.move rfl)) rfl ?_
           refine S.gq (t := 132) rfl rfl h61 rfl (Qt.idxM Try.runUnderlying38 Try.sizeOf30 rfl (Src.row 0 rfl) rfl (by first | omega | (have h_ := Sh.pub_len (s := e.a) (n := b * c) (l := l); omega)) (by first | omega | (have h_ := Sh.pub_len (s := e.a) (n := b * c) (l := l); omega))) rfl ?_
           refine S.gq (t := 132) rfl rfl h61 rfl (Pu.qt (Pu.fieldAddr (off' := voff v56 + ((i : Int)).toNat * 4 + 2) Try.runUnderlying30 rfl Try.sizeOf3 rfl rfl rfl)) rfl ?_
           refine S.gq (t := 132) rfl rfl h61 rfl (Qt.ld rfl (Cel.eltM (Src.row 0 rfl) he60) (o := (voff v56 + i * 4)) (off := 2) (by omega) (Cut.one Try.isAgg3 rfl)) rfl ?_
           refine S.gq (t := 132) rfl rfl h61 rfl (Pu.qt (Pu.fieldAddr (off' := 2) Try.runUnderlying30 rfl Try.sizeOf3 rfl rfl rfl)) rfl ?_
           refine S.gq (t := 132) rfl rfl h61 rfl (Qt.ld rfl (Cel.var 1 rfl) (o := 0) (off := 2) rfl (Cut.one Try.isAgg3 rfl)) rfl ?_
           refine S.gq (t := 132) rfl rfl h61 rfl (Pu.qt (Pu.eql rfl rfl)) rfl ?_
           refine S.p (Pu.pickT rfl h61 rfl) rfl ?_
           refine S.endJ ?_
           refine J.cond rfl (fun h63 => ?_) (fun h63 => ?_)
           ·
            have p64 := of_decide_eq_true h63
            refine J.seq ?_
            refine J.region ?_
            refine O.p (Pu.assign rfl) rfl ?_
            refine O.nil ?_
            exact J.ret (Fin.ret (rs := [.tmp 6]) rfl [_] ⟨rfl, trivial⟩ [] (by decide) [] rfl ⟨(by have hq_ : Sh.ask e.s e.id l = (n, o) := (by rw [hst, List.take_of_length_le (by omega)]); have hp_ := Sh.hasP_yes (x := (Sh.told e.s e.a e30.ttl e.tick l).1) he60 ‹_› ‹_›; rw [Sh.wrong_in (by omega)]; simp [vOf, Sh.bad2, Sh.passes, Sh.tOf_at he30, hq_, hp_, *]), rfl⟩)
           ·
            have p65 := of_decide_eq_false h63
            refine J.skip ?_
            refine J.blk ?_
            refine J.region ?_
            refine O.p (Pu.move rfl) rfl ?_
            refine O.p (Pu.add' rfl rfl (by first | omega | (have h_ := Sh.mul_bnd hb hc; omega) | (have h_ := Sh.pub_len (s := e.a) (n := b * c) (l := l); omega))) rfl ?_
            refine O.p (Pu.assign rfl) rfl ?_
            refine O.nil ?_
            exact J.lp (i + 1) (show (i + 1) ≤ (Sh.pub e.a (b * c) l).length ∧ ∀ (j : Nat) (q : Kw), j < (i + 1) → (Sh.pub e.a (b * c) l)[j]? = some q → ¬ (q.thr = (Sh.told e.s e.a e30.ttl e.tick l).1.thr ∧ q.ep = (Sh.told e.s e.a e30.ttl e.tick l).1.ep) from ⟨by omega, fun j q hj hq => by rcases Nat.lt_or_ge j i with h_ | h_; (· exact hno j q h_ hq); (· have h2_ : j = i := (by omega); subst h2_; rw [he60] at hq; cases hq; omega)⟩) (show (Sh.pub e.a (b * c) l).length - (i + 1) < (Sh.pub e.a (b * c) l).length - i from (by first | omega | (have h_ := Sh.pub_len (s := e.a) (n := b * c) (l := l); omega))) ⟨rfl, rfl, (congrArg (fun z => some (Value.int .i64 z)) (by first | rfl | omega : ((i : Int) + 1 : Int) = ((i + 1) : Int))), trivial⟩ [0, 1] (by decide) rfl
          ·
           have p66 := of_decide_eq_false h61
           refine S.gskip (t := 132) rfl rfl (no_bool (by rw [h61]; decide)) rfl rfl ?_
           refine S.gskip (t := 132) rfl rfl (no_bool (by rw [h61]; decide)) rfl rfl ?_
           refine S.gskip (t := 132) rfl rfl (no_bool (by rw [h61]; decide)) rfl rfl ?_
           refine S.gskip (t := 132) rfl rfl (no_bool (by rw [h61]; decide)) rfl rfl ?_
           refine S.gskip (t := 132) rfl rfl (no_bool (by rw [h61]; decide)) rfl rfl ?_
           refine S.gskip (t := 132) rfl rfl (no_bool (by rw [h61]; decide)) rfl rfl ?_
           refine S.gskip (t := 132) rfl rfl (no_bool (by rw [h61]; decide)) rfl rfl ?_
           refine S.gskip (t := 132) rfl rfl (no_bool (by rw [h61]; decide)) rfl rfl ?_
           refine S.p (Pu.pickF rfl h61 rfl) rfl ?_
           refine S.endJ ?_
           refine J.condF rfl rfl ?_
           refine J.skip ?_
           refine J.blk ?_
           refine J.region ?_
           refine O.p (Pu.move rfl) rfl ?_
           refine O.p (Pu.add' rfl rfl (by first | omega | (have h_ := Sh.mul_bnd hb hc; omega) | (have h_ := Sh.pub_len (s := e.a) (n := b * c) (l := l); omega))) rfl ?_
           refine O.p (Pu.assign rfl) rfl ?_
           refine O.nil ?_
           exact J.lp (i + 1) (show (i + 1) ≤ (Sh.pub e.a (b * c) l).length ∧ ∀ (j : Nat) (q : Kw), j < (i + 1) → (Sh.pub e.a (b * c) l)[j]? = some q → ¬ (q.thr = (Sh.told e.s e.a e30.ttl e.tick l).1.thr ∧ q.ep = (Sh.told e.s e.a e30.ttl e.tick l).1.ep) from ⟨by omega, fun j q hj hq => by rcases Nat.lt_or_ge j i with h_ | h_; (· exact hno j q h_ hq); (· have h2_ : j = i := (by omega); subst h2_; rw [he60] at hq; cases hq; omega)⟩) (show (Sh.pub e.a (b * c) l).length - (i + 1) < (Sh.pub e.a (b * c) l).length - i from (by first | omega | (have h_ := Sh.pub_len (s := e.a) (n := b * c) (l := l); omega))) ⟨rfl, rfl, (congrArg (fun z => some (Value.int .i64 z)) (by first | rfl | omega : ((i : Int) + 1 : Int) = ((i + 1) : Int))), trivial⟩ [0, 1] (by decide) rfl
         ·
          have p67 := of_decide_eq_false h58
          refine J.exit _ rfl ?_
          refine J.seq ?_
          refine J.region ?_
          refine O.p (Pu.assign rfl) rfl ?_
          refine O.nil ?_
          exact J.ret (Fin.ret (rs := [.tmp 6]) rfl [_] ⟨rfl, trivial⟩ [] (by decide) [] rfl ⟨(by have hq_ : Sh.ask e.s e.id l = (n, o) := (by rw [hst, List.take_of_length_le (by omega)]); have hp_ := Sh.hasP_no (x := (Sh.told e.s e.a e30.ttl e.tick l).1) hno (by omega); rw [Sh.wrong_in (by omega)]; simp [vOf, Sh.bad2, Sh.passes, Sh.tOf_at he30, hq_, hp_, *]), rfl⟩)

end Go.Proofs.Ytdnalilglacjbaa
