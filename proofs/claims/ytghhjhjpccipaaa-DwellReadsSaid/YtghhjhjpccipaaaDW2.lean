/-
  Walks, printed by a program of mine (lk.py): each function meets its contract.
-/
import Derived.KernelRfl
import Derived.Test.YtghhjhjpccipaaaDW1
namespace Go.Proofs.Ytghhjhjpccipaaa
open Go Go.LK

set_option maxRecDepth 100000 in
theorem dw_wrong1 (k : Int) (was now : Wd) (gf gh gx gm : Nat) (m : Mv) (h : Kp) (f : Bool) (x : Kn) : Tri Try.prog 57 #[.int .i64 k, .agg #[.int .i64 was.no, .int .i64 was.th, .int .i64 was.ti], .agg #[.int .i64 now.no, .int .i64 now.th, .int .i64 now.ti], .pointer (some ⟨gf, 0, none⟩), .pointer (some ⟨gh, 0, none⟩), .pointer (some ⟨gx, 0, none⟩), .pointer (some ⟨gm, 0, none⟩)] [] [var gf [.bool f] 4, var gh [.int .i64 h.way, .int .i64 h.frm, .int .i64 h.dim, .int .i64 h.at_] 101, var gx [.int .i64 x.low, .int .i64 x.high, .int .i64 x.cut, .int .i64 x.lift, .int .i64 x.floor, .int .i64 x.turn, .int .i64 x.dwell] 42, var gm [.int .i64 m.at_, .int .i64 m.way, .int .i64 m.tier] 44] (fun v L' => v = .tuple #[] ∧ L' = [var gf [.bool ((Dw.wrC x (⟨m, h, f⟩ : Dw.Ws) k was now).found)] 4, var gh [.int .i64 (((Dw.wrC x (⟨m, h, f⟩ : Dw.Ws) k was now).held).way), .int .i64 (((Dw.wrC x (⟨m, h, f⟩ : Dw.Ws) k was now).held).frm), .int .i64 (((Dw.wrC x (⟨m, h, f⟩ : Dw.Ws) k was now).held).dim), .int .i64 (((Dw.wrC x (⟨m, h, f⟩ : Dw.Ws) k was now).held).at_)] 101, var gx [.int .i64 x.low, .int .i64 x.high, .int .i64 x.cut, .int .i64 x.lift, .int .i64 x.floor, .int .i64 x.turn, .int .i64 x.dwell] 42, var gm [.int .i64 (((Dw.wrC x (⟨m, h, f⟩ : Dw.Ws) k was now).fst).at_), .int .i64 (((Dw.wrC x (⟨m, h, f⟩ : Dw.Ws) k was now).fst).way), .int .i64 (((Dw.wrC x (⟨m, h, f⟩ : Dw.Ws) k was now).fst).tier)] 44]) := by
  refine Tri.enter (args := [.int .i64 k, .agg #[.int .i64 was.no, .int .i64 was.th, .int .i64 was.ti], .agg #[.int .i64 now.no, .int .i64 now.th, .int .i64 now.ti], .pointer (some ⟨gf, 0, none⟩), .pointer (some ⟨gh, 0, none⟩), .pointer (some ⟨gx, 0, none⟩), .pointer (some ⟨gm, 0, none⟩)]) (body := _) 31 Try.func57 rfl Try.ntmps57 rfl ?_
  intro w0
  refine J.seq ?_
  refine J.region ?_
  refine O.l (Lo.box [.int .i64 was.no, .int .i64 was.th, .int .i64 was.ti] rfl rfl) rfl ?_
  rintro _ _ ⟨g1, rfl, rfl⟩
  refine O.l (Lo.box [.int .i64 now.no, .int .i64 now.th, .int .i64 now.ti] rfl rfl) rfl ?_
  rintro _ _ ⟨g2, rfl, rfl⟩
  refine O.nil ?_
  refine J.seq ?_
  refine J.region ?_
  refine O.p (Pu.move rfl) rfl ?_
  refine O.q (Qt.ld rfl (Cel.var 1 rfl) (o := 0) (off := 0) rfl (Cut.agg [.int .i64 was.no, .int .i64 was.th, .int .i64 was.ti] Try.isAgg104 Try.sizeOf104 rfl rfl)) rfl ?_
  refine O.q (Qt.ld rfl (Cel.var 0 rfl) (o := 0) (off := 0) rfl (Cut.agg [.int .i64 now.no, .int .i64 now.th, .int .i64 now.ti] Try.isAgg104 Try.sizeOf104 rfl rfl)) rfl ?_
  refine O.l (Lo.call [.int .i64 k, .agg #[.int .i64 was.no, .int .i64 was.th, .int .i64 was.ti], .agg #[.int .i64 now.no, .int .i64 now.th, .int .i64 now.ti]] (by exact Try.call58) rfl (dw_moved k was now) [] [0, 1, 2, 3, 4, 5] (by decide) rfl _ rfl RoOk.nil) rfl ?_
  rintro _ _ ⟨_, ⟨rfl, rfl⟩, rfl⟩
  refine O.l (Lo.alloc [.int .i64 0, .int .i64 0, .int .i64 0] (by exact Try.zeroValue44) rfl) rfl ?_
  rintro _ _ ⟨g4, rfl, rfl⟩
  refine O.l0 (Lo.store 0 (vs := [.int .i64 ((Dw.moved k was now).at_), .int .i64 ((Dw.moved k was now).way), .int .i64 ((Dw.moved k was now).tier)]) [.int .i64 ((Dw.moved k was now).at_), .int .i64 ((Dw.moved k was now).way), .int .i64 ((Dw.moved k was now).tier)] rfl rfl rfl (by exact Try.sizeOf44) rfl rfl rfl rfl rfl) ?_
  rintro _ _ rfl
  refine O.nil ?_
  refine J.seq ?_
  refine J.seq ?_
  refine J.region ?_
  refine O.q (Qt.ld rfl (Cel.var 3 rfl) (o := 0) (off := 0) rfl (Cut.one Try.isAgg4 rfl)) rfl ?_
  refine O.p (Pu.not rfl) rfl ?_
  refine O.p (Pu.move rfl) rfl ?_
  refine by_bool (!f) (fun h5 => ?_) (fun h5 => ?_)
  ·
    have h6 : f = false := not_flip h5
    subst h6
    refine O.gq (t := 17) rfl rfl rfl rfl (Qt.ld rfl (Cel.var 4 rfl) (o := 0) (off := 0) rfl (Cut.agg [.int .i64 h.way, .int .i64 h.frm, .int .i64 h.dim, .int .i64 h.at_] Try.isAgg101 Try.sizeOf101 rfl rfl)) rfl ?_
    refine O.gq (t := 17) rfl rfl rfl rfl (Qt.ld rfl (Cel.var 0 rfl) (o := 0) (off := 0) rfl (Cut.agg [.int .i64 ((Dw.moved k was now).at_), .int .i64 ((Dw.moved k was now).way), .int .i64 ((Dw.moved k was now).tier)] Try.isAgg44 Try.sizeOf44 rfl rfl)) rfl ?_
    refine O.gq (t := 17) rfl rfl rfl rfl (Pu.qt (Pu.fieldAddr (off' := 0) Try.runUnderlying104 rfl Try.sizeOf3 rfl rfl rfl)) rfl ?_
    refine O.gq (t := 17) rfl rfl rfl rfl (Qt.ld rfl (Cel.var 1 rfl) (o := 0) (off := 0) rfl (Cut.one Try.isAgg3 rfl)) rfl ?_
    refine O.gq (t := 17) rfl rfl rfl rfl (Qt.ld rfl (Cel.var 5 rfl) (o := 0) (off := 0) rfl (Cut.agg [.int .i64 x.low, .int .i64 x.high, .int .i64 x.cut, .int .i64 x.lift, .int .i64 x.floor, .int .i64 x.turn, .int .i64 x.dwell] Try.isAgg42 Try.sizeOf42 rfl rfl)) rfl ?_
    refine O.gl (t := 17) rfl rfl rfl rfl (Lo.call [.agg #[.int .i64 h.way, .int .i64 h.frm, .int .i64 h.dim, .int .i64 h.at_], .agg #[.int .i64 ((Dw.moved k was now).at_), .int .i64 ((Dw.moved k was now).way), .int .i64 ((Dw.moved k was now).tier)], .int .i64 now.no, .agg #[.int .i64 x.low, .int .i64 x.high, .int .i64 x.cut, .int .i64 x.lift, .int .i64 x.floor, .int .i64 x.turn, .int .i64 x.dwell]] (by exact Try.call59) rfl (dw_soon h (Dw.moved k was now) now.no x) [] [0, 1, 2, 3, 4, 5, 6] (by decide) rfl _ rfl RoOk.nil) rfl ?_
    rintro _ _ ⟨_, ⟨rfl, rfl⟩, rfl⟩
    refine O.p (Pu.pickT rfl rfl rfl) rfl ?_
    refine O.nil ?_
    refine J.cond rfl (fun h8 => ?_) (fun h8 => ?_)
    ·
      refine J.region ?_
      refine O.q (Qt.ld rfl (Cel.var 0 rfl) (o := 0) (off := 0) rfl (Cut.agg [.int .i64 ((Dw.moved k was now).at_), .int .i64 ((Dw.moved k was now).way), .int .i64 ((Dw.moved k was now).tier)] Try.isAgg44 Try.sizeOf44 rfl rfl)) rfl ?_
      refine O.l0 (Lo.store 6 (vs := [.int .i64 ((Dw.moved k was now).at_), .int .i64 ((Dw.moved k was now).way), .int .i64 ((Dw.moved k was now).tier)]) [.int .i64 ((Dw.moved k was now).at_), .int .i64 ((Dw.moved k was now).way), .int .i64 ((Dw.moved k was now).tier)] rfl rfl rfl (by exact Try.sizeOf44) rfl rfl rfl rfl rfl) ?_
      rintro _ _ rfl
      refine O.l0 (Lo.store 3 (vs := [.bool true]) [.bool true] rfl rfl rfl (by exact Try.sizeOf4) rfl rfl rfl rfl rfl) ?_
      rintro _ _ rfl
      refine O.nil ?_
      refine J.region ?_
      refine O.q (Qt.ld rfl (Cel.var 4 rfl) (o := 0) (off := 0) rfl (Cut.agg [.int .i64 h.way, .int .i64 h.frm, .int .i64 h.dim, .int .i64 h.at_] Try.isAgg101 Try.sizeOf101 rfl rfl)) rfl ?_
      refine O.q (Qt.ld rfl (Cel.var 0 rfl) (o := 0) (off := 0) rfl (Cut.agg [.int .i64 ((Dw.moved k was now).at_), .int .i64 ((Dw.moved k was now).way), .int .i64 ((Dw.moved k was now).tier)] Try.isAgg44 Try.sizeOf44 rfl rfl)) rfl ?_
      refine O.p (Pu.fieldAddr (off' := 0) Try.runUnderlying104 rfl Try.sizeOf3 rfl rfl rfl) rfl ?_
      refine O.q (Qt.ld rfl (Cel.var 1 rfl) (o := 0) (off := 0) rfl (Cut.one Try.isAgg3 rfl)) rfl ?_
      refine O.l (Lo.call [.agg #[.int .i64 h.way, .int .i64 h.frm, .int .i64 h.dim, .int .i64 h.at_], .agg #[.int .i64 ((Dw.moved k was now).at_), .int .i64 ((Dw.moved k was now).way), .int .i64 ((Dw.moved k was now).tier)], .int .i64 now.no] (by exact Try.call60) rfl (dw_note h (Dw.moved k was now) now.no) [] [0, 1, 2, 3, 4, 5, 6] (by decide) rfl _ rfl RoOk.nil) rfl ?_
      rintro _ _ ⟨_, ⟨rfl, rfl⟩, rfl⟩
      refine O.l0 (Lo.store 4 (vs := [.int .i64 ((Dw.note h (Dw.moved k was now) now.no).way), .int .i64 ((Dw.note h (Dw.moved k was now) now.no).frm), .int .i64 ((Dw.note h (Dw.moved k was now) now.no).dim), .int .i64 ((Dw.note h (Dw.moved k was now) now.no).at_)]) [.int .i64 ((Dw.note h (Dw.moved k was now) now.no).way), .int .i64 ((Dw.note h (Dw.moved k was now) now.no).frm), .int .i64 ((Dw.note h (Dw.moved k was now) now.no).dim), .int .i64 ((Dw.note h (Dw.moved k was now) now.no).at_)] rfl rfl rfl (by exact Try.sizeOf101) rfl rfl rfl rfl rfl) ?_
      rintro _ _ rfl
      refine O.nil ?_
      exact J.done (Fin.ret (rs := []) rfl [] trivial [3, 4, 5, 6] (by decide) [var gf [.bool true] 4, var gh [.int .i64 ((Dw.note h (Dw.moved k was now) now.no).way), .int .i64 ((Dw.note h (Dw.moved k was now) now.no).frm), .int .i64 ((Dw.note h (Dw.moved k was now) now.no).dim), .int .i64 ((Dw.note h (Dw.moved k was now) now.no).at_)] 101, var gx [.int .i64 x.low, .int .i64 x.high, .int .i64 x.cut, .int .i64 x.lift, .int .i64 x.floor, .int .i64 x.turn, .int .i64 x.dwell] 42, var gm [.int .i64 ((Dw.moved k was now).at_), .int .i64 ((Dw.moved k was now).way), .int .i64 ((Dw.moved k was now).tier)] 44] rfl ⟨rfl, by simp [Dw.wrC, *]⟩)
    ·
      refine J.skip ?_
      refine J.region ?_
      refine O.q (Qt.ld rfl (Cel.var 4 rfl) (o := 0) (off := 0) rfl (Cut.agg [.int .i64 h.way, .int .i64 h.frm, .int .i64 h.dim, .int .i64 h.at_] Try.isAgg101 Try.sizeOf101 rfl rfl)) rfl ?_
      refine O.q (Qt.ld rfl (Cel.var 0 rfl) (o := 0) (off := 0) rfl (Cut.agg [.int .i64 ((Dw.moved k was now).at_), .int .i64 ((Dw.moved k was now).way), .int .i64 ((Dw.moved k was now).tier)] Try.isAgg44 Try.sizeOf44 rfl rfl)) rfl ?_
      refine O.p (Pu.fieldAddr (off' := 0) Try.runUnderlying104 rfl Try.sizeOf3 rfl rfl rfl) rfl ?_
      refine O.q (Qt.ld rfl (Cel.var 1 rfl) (o := 0) (off := 0) rfl (Cut.one Try.isAgg3 rfl)) rfl ?_
      refine O.l (Lo.call [.agg #[.int .i64 h.way, .int .i64 h.frm, .int .i64 h.dim, .int .i64 h.at_], .agg #[.int .i64 ((Dw.moved k was now).at_), .int .i64 ((Dw.moved k was now).way), .int .i64 ((Dw.moved k was now).tier)], .int .i64 now.no] (by exact Try.call60) rfl (dw_note h (Dw.moved k was now) now.no) [] [0, 1, 2, 3, 4, 5, 6] (by decide) rfl _ rfl RoOk.nil) rfl ?_
      rintro _ _ ⟨_, ⟨rfl, rfl⟩, rfl⟩
      refine O.l0 (Lo.store 4 (vs := [.int .i64 ((Dw.note h (Dw.moved k was now) now.no).way), .int .i64 ((Dw.note h (Dw.moved k was now) now.no).frm), .int .i64 ((Dw.note h (Dw.moved k was now) now.no).dim), .int .i64 ((Dw.note h (Dw.moved k was now) now.no).at_)]) [.int .i64 ((Dw.note h (Dw.moved k was now) now.no).way), .int .i64 ((Dw.note h (Dw.moved k was now) now.no).frm), .int .i64 ((Dw.note h (Dw.moved k was now) now.no).dim), .int .i64 ((Dw.note h (Dw.moved k was now) now.no).at_)] rfl rfl rfl (by exact Try.sizeOf101) rfl rfl rfl rfl rfl) ?_
      rintro _ _ rfl
      refine O.nil ?_
      exact J.done (Fin.ret (rs := []) rfl [] trivial [3, 4, 5, 6] (by decide) [var gf [.bool false] 4, var gh [.int .i64 ((Dw.note h (Dw.moved k was now) now.no).way), .int .i64 ((Dw.note h (Dw.moved k was now) now.no).frm), .int .i64 ((Dw.note h (Dw.moved k was now) now.no).dim), .int .i64 ((Dw.note h (Dw.moved k was now) now.no).at_)] 101, var gx [.int .i64 x.low, .int .i64 x.high, .int .i64 x.cut, .int .i64 x.lift, .int .i64 x.floor, .int .i64 x.turn, .int .i64 x.dwell] 42, var gm [.int .i64 m.at_, .int .i64 m.way, .int .i64 m.tier] 44] rfl ⟨rfl, by simp [Dw.wrC, *]⟩)
  ·
    have h11 : f = true := not_flip h5
    subst h11
    refine O.gskip (t := 17) rfl rfl (no_bool (by decide)) rfl rfl ?_
    refine O.gskip (t := 17) rfl rfl (no_bool (by decide)) rfl rfl ?_
    refine O.gskip (t := 17) rfl rfl (no_bool (by decide)) rfl rfl ?_
    refine O.gskip (t := 17) rfl rfl (no_bool (by decide)) rfl rfl ?_
    refine O.gskip (t := 17) rfl rfl (no_bool (by decide)) rfl rfl ?_
    refine O.gskip (t := 17) rfl rfl (no_bool (by decide)) rfl rfl ?_
    refine O.p (Pu.pickF rfl rfl rfl) rfl ?_
    refine O.nil ?_
    refine J.condF rfl rfl ?_
    refine J.skip ?_
    refine J.region ?_
    refine O.q (Qt.ld rfl (Cel.var 4 rfl) (o := 0) (off := 0) rfl (Cut.agg [.int .i64 h.way, .int .i64 h.frm, .int .i64 h.dim, .int .i64 h.at_] Try.isAgg101 Try.sizeOf101 rfl rfl)) rfl ?_
    refine O.q (Qt.ld rfl (Cel.var 0 rfl) (o := 0) (off := 0) rfl (Cut.agg [.int .i64 ((Dw.moved k was now).at_), .int .i64 ((Dw.moved k was now).way), .int .i64 ((Dw.moved k was now).tier)] Try.isAgg44 Try.sizeOf44 rfl rfl)) rfl ?_
    refine O.p (Pu.fieldAddr (off' := 0) Try.runUnderlying104 rfl Try.sizeOf3 rfl rfl rfl) rfl ?_
    refine O.q (Qt.ld rfl (Cel.var 1 rfl) (o := 0) (off := 0) rfl (Cut.one Try.isAgg3 rfl)) rfl ?_
    refine O.l (Lo.call [.agg #[.int .i64 h.way, .int .i64 h.frm, .int .i64 h.dim, .int .i64 h.at_], .agg #[.int .i64 ((Dw.moved k was now).at_), .int .i64 ((Dw.moved k was now).way), .int .i64 ((Dw.moved k was now).tier)], .int .i64 now.no] (by exact Try.call60) rfl (dw_note h (Dw.moved k was now) now.no) [] [0, 1, 2, 3, 4, 5, 6] (by decide) rfl _ rfl RoOk.nil) rfl ?_
    rintro _ _ ⟨_, ⟨rfl, rfl⟩, rfl⟩
    refine O.l0 (Lo.store 4 (vs := [.int .i64 ((Dw.note h (Dw.moved k was now) now.no).way), .int .i64 ((Dw.note h (Dw.moved k was now) now.no).frm), .int .i64 ((Dw.note h (Dw.moved k was now) now.no).dim), .int .i64 ((Dw.note h (Dw.moved k was now) now.no).at_)]) [.int .i64 ((Dw.note h (Dw.moved k was now) now.no).way), .int .i64 ((Dw.note h (Dw.moved k was now) now.no).frm), .int .i64 ((Dw.note h (Dw.moved k was now) now.no).dim), .int .i64 ((Dw.note h (Dw.moved k was now) now.no).at_)] rfl rfl rfl (by exact Try.sizeOf101) rfl rfl rfl rfl rfl) ?_
    rintro _ _ rfl
    refine O.nil ?_
    exact J.done (Fin.ret (rs := []) rfl [] trivial [3, 4, 5, 6] (by decide) [var gf [.bool true] 4, var gh [.int .i64 ((Dw.note h (Dw.moved k was now) now.no).way), .int .i64 ((Dw.note h (Dw.moved k was now) now.no).frm), .int .i64 ((Dw.note h (Dw.moved k was now) now.no).dim), .int .i64 ((Dw.note h (Dw.moved k was now) now.no).at_)] 101, var gx [.int .i64 x.low, .int .i64 x.high, .int .i64 x.cut, .int .i64 x.lift, .int .i64 x.floor, .int .i64 x.turn, .int .i64 x.dwell] 42, var gm [.int .i64 m.at_, .int .i64 m.way, .int .i64 m.tier] 44] rfl ⟨rfl, by simp [Dw.wrC, *]⟩)

set_option maxRecDepth 100000 in
theorem dw_wrong2 (gh : Nat) (h : Kp) : Tri Try.prog 61 #[.pointer (some ⟨gh, 0, none⟩)] [] [var gh [.int .i64 h.way, .int .i64 h.frm, .int .i64 h.dim, .int .i64 h.at_] 101] (fun v L' => v = .tuple #[] ∧ L' = [var gh [.int .i64 Dw.kp0.way, .int .i64 Dw.kp0.frm, .int .i64 Dw.kp0.dim, .int .i64 Dw.kp0.at_] 101]) := by
  refine Tri.enter (args := [.pointer (some ⟨gh, 0, none⟩)]) (body := _) 2 Try.func61 rfl Try.ntmps61 rfl ?_
  intro w0
  refine J.region ?_
  refine O.p (Pu.build [] [.int .i64 0, .int .i64 0, .int .i64 0, .int .i64 0] #[(0, 1), (1, 1), (2, 1), (3, 1)] Try.runUnderlying101 Try.zeroValue101 (places101 Try.underlying101) rfl (by kernel_rfl)) rfl ?_
  refine O.l0 (Lo.store 0 (vs := [.int .i64 0, .int .i64 0, .int .i64 0, .int .i64 0]) [.int .i64 0, .int .i64 0, .int .i64 0, .int .i64 0] rfl rfl rfl (by exact Try.sizeOf101) rfl rfl rfl rfl rfl) ?_
  rintro _ _ rfl
  refine O.nil ?_
  exact J.done (Fin.ret (rs := []) rfl [] trivial [0] (by decide) [var gh [.int .i64 0, .int .i64 0, .int .i64 0, .int .i64 0] 101] rfl ⟨rfl, rfl⟩)

set_option maxRecDepth 100000 in
theorem dw_moves1 (k : Int) (was now : Wd) (go : Nat) (V : Value) (out : List Mv) (hlen : out.length ≤ 100000) : Tri Try.prog 66 #[.int .i64 k, .agg #[.int .i64 was.no, .int .i64 was.th, .int .i64 was.ti], .agg #[.int .i64 now.no, .int .i64 now.th, .int .i64 now.ti], .pointer (some ⟨go, 0, none⟩)] [] [var go [V] 49, row V 44 3 (out.map Mv.cells)] (fun v L' => v = .tuple #[] ∧ ∃ V', L' = [var go [V'] 49, row V' 44 3 ((Dw.mvC out k was now).map Mv.cells)]) := by
  refine Tri.enter (args := [.int .i64 k, .agg #[.int .i64 was.no, .int .i64 was.th, .int .i64 was.ti], .agg #[.int .i64 now.no, .int .i64 now.th, .int .i64 now.ti], .pointer (some ⟨go, 0, none⟩)]) (body := _) 20 Try.func66 rfl Try.ntmps66 rfl ?_
  intro w0
  refine J.seq ?_
  refine J.region ?_
  refine O.l (Lo.box [.int .i64 was.no, .int .i64 was.th, .int .i64 was.ti] rfl rfl) rfl ?_
  rintro _ _ ⟨g1, rfl, rfl⟩
  refine O.l (Lo.box [.int .i64 now.no, .int .i64 now.th, .int .i64 now.ti] rfl rfl) rfl ?_
  rintro _ _ ⟨g2, rfl, rfl⟩
  refine O.nil ?_
  refine J.seq ?_
  refine J.region ?_
  refine O.p (Pu.move rfl) rfl ?_
  refine O.q (Qt.ld rfl (Cel.var 1 rfl) (o := 0) (off := 0) rfl (Cut.agg [.int .i64 was.no, .int .i64 was.th, .int .i64 was.ti] Try.isAgg104 Try.sizeOf104 rfl rfl)) rfl ?_
  refine O.q (Qt.ld rfl (Cel.var 0 rfl) (o := 0) (off := 0) rfl (Cut.agg [.int .i64 now.no, .int .i64 now.th, .int .i64 now.ti] Try.isAgg104 Try.sizeOf104 rfl rfl)) rfl ?_
  refine O.l (Lo.call [.int .i64 k, .agg #[.int .i64 was.no, .int .i64 was.th, .int .i64 was.ti], .agg #[.int .i64 now.no, .int .i64 now.th, .int .i64 now.ti]] (by exact Try.call58) rfl (dw_moved k was now) [] [0, 1, 2, 3] (by decide) rfl _ rfl RoOk.nil) rfl ?_
  rintro _ _ ⟨_, ⟨rfl, rfl⟩, rfl⟩
  refine O.l (Lo.alloc [.int .i64 0, .int .i64 0, .int .i64 0] (by exact Try.zeroValue44) rfl) rfl ?_
  rintro _ _ ⟨g4, rfl, rfl⟩
  refine O.l0 (Lo.store 0 (vs := [.int .i64 ((Dw.moved k was now).at_), .int .i64 ((Dw.moved k was now).way), .int .i64 ((Dw.moved k was now).tier)]) [.int .i64 ((Dw.moved k was now).at_), .int .i64 ((Dw.moved k was now).way), .int .i64 ((Dw.moved k was now).tier)] rfl rfl rfl (by exact Try.sizeOf44) rfl rfl rfl rfl rfl) ?_
  rintro _ _ rfl
  refine O.nil ?_
  refine J.seq ?_
  refine J.region ?_
  refine O.q (Qt.ld rfl (Cel.var 0 rfl) (o := 0) (off := 0) rfl (Cut.agg [.int .i64 ((Dw.moved k was now).at_), .int .i64 ((Dw.moved k was now).way), .int .i64 ((Dw.moved k was now).tier)] Try.isAgg44 Try.sizeOf44 rfl rfl)) rfl ?_
  refine O.p (Pu.move rfl) rfl ?_
  refine O.p (Pu.build [(0, .int .i64 k)] [.int .i64 k, .int .i64 0, .int .i64 0] #[(0, 1), (1, 1), (2, 1)] Try.runUnderlying44 Try.zeroValue44 (places44 Try.underlying44) rfl (by kernel_rfl)) rfl ?_
  refine O.p (Pu.neqI [(Dw.moved k was now).at_, (Dw.moved k was now).way, (Dw.moved k was now).tier] [k, 0, 0] Try.underlying44 Try.stoodInHeld44 Try.eqGuardType44 (fint44 Try.underlying44) rfl rfl rfl rfl) rfl ?_
  refine O.nil ?_
  refine J.cond rfl (fun h5 => ?_) (fun h5 => ?_)
  ·
    have h6 : (decide (([(Dw.moved k was now).at_, (Dw.moved k was now).way, (Dw.moved k was now).tier] : List Int) = [k, 0, 0])) = false := not_flip h5
    have p7 := of_decide_eq_false h6
    refine J.region ?_
    refine O.q (Qt.ld rfl (Cel.var 3 rfl) (o := 0) (off := 0) rfl (Cut.one Try.isAgg49 rfl)) rfl ?_
    refine O.q (Qt.ld rfl (Cel.var 0 rfl) (o := 0) (off := 0) rfl (Cut.agg [.int .i64 ((Dw.moved k was now).at_), .int .i64 ((Dw.moved k was now).way), .int .i64 ((Dw.moved k was now).tier)] Try.isAgg44 Try.sizeOf44 rfl rfl)) rfl ?_
    refine O.l (Lo.buildM (s := 3) Mv.cells [Dw.moved k was now] [(0, .agg #[.int .i64 ((Dw.moved k was now).at_), .int .i64 ((Dw.moved k was now).way), .int .i64 ((Dw.moved k was now).tier)])] (by exact Try.runUnderlying49) (by exact Try.sizeOf44) (by exact Try.zeroValue44) rfl rfl rfl (by kernel_rfl) rfl rfl) rfl ?_
    rintro V8 _ rfl
    refine O.l (Lo.appendM (s := 3) 5 (by exact Try.underlying49) (by exact (info44).1) (by exact (info44).2.1) (by exact (info44).2.2.1) (by exact (info44).2.2.2) rfl rfl rfl rfl rfl (Src.row 0 rfl) Mv.one (by first | omega | (simp only [List.length_append, List.length_cons, List.length_nil, List.length_set]; omega)) (by first | omega | (simp only [List.length_append, List.length_cons, List.length_nil, List.length_set]; omega))) rfl ?_
    rintro V9 _ rfl
    refine O.one (Src.row 5 rfl) (fun hV10 => ?_)
    refine O.l0 (Lo.store 4 (vs := [V9]) [V9] rfl rfl rfl (by exact Try.sizeOf49) (one_cells hV10) rfl (one_all hV10) rfl rfl) ?_
    rintro _ _ rfl
    refine O.nil ?_
    exact J.done (Fin.ret (rs := []) rfl [] trivial [4, 5] (by decide) [var go [V9] 49, row V9 44 3 ((out ++ ([Dw.moved k was now])).map Mv.cells)] rfl ⟨rfl, V9, congrArg (fun l => ([var go [V9] 49, row V9 44 3 (l.map Mv.cells)] : List Sp)) (Dw.mvC_t (by assumption)).symm⟩)
  ·
    have h11 : (decide (([(Dw.moved k was now).at_, (Dw.moved k was now).way, (Dw.moved k was now).tier] : List Int) = [k, 0, 0])) = true := not_flip h5
    have p12 := of_decide_eq_true h11
    refine J.skip ?_
    exact J.done (Fin.ret (rs := []) rfl [] trivial [3, 4] (by decide) [var go [V] 49, row V 44 3 (out.map Mv.cells)] rfl ⟨rfl, V, congrArg (fun l => ([var go [V] 49, row V 44 3 (l.map Mv.cells)] : List Sp)) (Dw.mvC_f (by assumption)).symm⟩)

set_option maxRecDepth 100000 in
theorem dw_moves2  : Tri Try.prog 67 #[] [] [] (fun v L' => v = .tuple #[] ∧ L' = []) := by
  refine Tri.enter (args := []) (body := _) 0 Try.func67 rfl Try.ntmps67 rfl ?_
  intro w0
  refine J.skip ?_
  exact J.done (Fin.ret (rs := []) rfl [] trivial [] (by decide) [] rfl ⟨rfl, rfl⟩)

set_option maxRecDepth 100000 in
theorem dw_windows1 (k : Int) (was now : Wd) (gn : Nat) (n : Int) (hn0 : 0 ≤ n) (hn1 : n ≤ 100000) : Tri Try.prog 68 #[.int .i64 k, .agg #[.int .i64 was.no, .int .i64 was.th, .int .i64 was.ti], .agg #[.int .i64 now.no, .int .i64 now.th, .int .i64 now.ti], .pointer (some ⟨gn, 0, none⟩)] [] [var gn [.int .i64 n] 3] (fun v L' => v = .tuple #[] ∧ L' = [var gn [.int .i64 (n + 1)] 3]) := by
  refine Tri.enter (args := [.int .i64 k, .agg #[.int .i64 was.no, .int .i64 was.th, .int .i64 was.ti], .agg #[.int .i64 now.no, .int .i64 now.th, .int .i64 now.ti], .pointer (some ⟨gn, 0, none⟩)]) (body := _) 9 Try.func68 rfl Try.ntmps68 rfl ?_
  intro w0
  refine J.seq ?_
  refine J.region ?_
  refine O.l (Lo.box [.int .i64 was.no, .int .i64 was.th, .int .i64 was.ti] rfl rfl) rfl ?_
  rintro _ _ ⟨g1, rfl, rfl⟩
  refine O.l (Lo.box [.int .i64 now.no, .int .i64 now.th, .int .i64 now.ti] rfl rfl) rfl ?_
  rintro _ _ ⟨g2, rfl, rfl⟩
  refine O.nil ?_
  refine J.region ?_
  refine O.q (Qt.ld rfl (Cel.var 2 rfl) (o := 0) (off := 0) rfl (Cut.one Try.isAgg3 rfl)) rfl ?_
  refine O.p (Pu.add' rfl rfl (by first | omega | (simp only [List.length_append, List.length_cons, List.length_nil, List.length_set]; omega))) rfl ?_
  refine O.l0 (Lo.store 2 (vs := [.int .i64 (n + 1)]) [.int .i64 (n + 1)] rfl rfl rfl (by exact Try.sizeOf3) rfl rfl rfl rfl rfl) ?_
  rintro _ _ rfl
  refine O.nil ?_
  exact J.done (Fin.ret (rs := []) rfl [] trivial [2] (by decide) [var gn [.int .i64 (n + 1)] 3] rfl ⟨rfl, rfl⟩)

set_option maxRecDepth 100000 in
theorem dw_windows2 (gn : Nat) (n : Int) : Tri Try.prog 69 #[.pointer (some ⟨gn, 0, none⟩)] [] [var gn [.int .i64 n] 3] (fun v L' => v = .tuple #[] ∧ L' = [var gn [.int .i64 0] 3]) := by
  refine Tri.enter (args := [.pointer (some ⟨gn, 0, none⟩)]) (body := _) 1 Try.func69 rfl Try.ntmps69 rfl ?_
  intro w0
  refine J.region ?_
  refine O.l0 (Lo.store 0 (vs := [.int .i64 0]) [.int .i64 0] rfl rfl rfl (by exact Try.sizeOf3) rfl rfl rfl rfl rfl) ?_
  rintro _ _ rfl
  refine O.nil ?_
  exact J.done (Fin.ret (rs := []) rfl [] trivial [0] (by decide) [var gn [.int .i64 0] 3] rfl ⟨rfl, rfl⟩)

end Go.Proofs.Ytghhjhjpccipaaa
