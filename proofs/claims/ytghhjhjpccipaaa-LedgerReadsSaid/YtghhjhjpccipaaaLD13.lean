/-
  Walks, printed by a program of mine (lk.py): each function meets its contract.
-/
import Derived.KernelRfl
import Derived.Test.YtghhjhjpccipaaaLD12
namespace Go.Proofs.Ytghhjhjpccipaaa
open Go Go.LK
set_option linter.unusedSimpArgs false

set_option maxRecDepth 100000 in
set_option maxHeartbeats 2000000 in
theorem law41_ledgerReads (lv : Value) (l : List Ev) (s id : Int) : Tri Try.prog 5 #[lv, .int .i64 s, .int .i64 id] [rd lv 7 (l.map Ev.cells)] [] (fun v L' => v = .bool true ∧ L' = []) := by
  refine Tri.enter (args := [lv, .int .i64 s, .int .i64 id]) (body := _) 92 Try.func5 rfl Try.ntmps5 rfl ?_
  intro w0
  refine J.seq ?_
  refine J.region ?_
  refine O.p (Pu.assign rfl) rfl ?_
  refine O.nil ?_
  refine J.seq ?_
  refine J.seq ?_
  refine J.region ?_
  refine O.p (Pu.move rfl) rfl ?_
  refine O.q (Qt.lenM Try.runUnderlying22 rfl (Src.ro 0 rfl)) rfl ?_
  refine O.p (Pu.gtr rfl rfl) rfl ?_
  refine O.nil ?_
  refine J.cond rfl (fun h1 => ?_) (fun h1 => ?_)
  ·
    have p2 := of_decide_eq_true h1
    refine J.seq ?_
    refine J.region ?_
    refine O.l (Lo.call [] (by exact Try.call27) rfl law41_awake [] [] (by decide) rfl _ rfl RoOk.nil) rfl ?_
    rintro _ _ ⟨_, ⟨rfl, rfl⟩, rfl⟩
    refine O.p (Pu.assign rfl) rfl ?_
    refine O.nil ?_
    exact J.ret (Fin.ret (rs := [.tmp 6]) rfl [_] ⟨rfl, trivial⟩ [] (by decide) [] rfl ⟨rfl, rfl⟩)
  ·
    have p4 := of_decide_eq_false h1
    refine J.skip ?_
    refine J.seq ?_
    refine J.region ?_
    refine O.p (Pu.move rfl) rfl ?_
    refine O.l (Lo.call [lv] (by exact Try.call28) rfl (ld_Read lv l (by first | omega | (have hrl := Ld.read_len l; omega) | (have hrl := Ld.read_len l; have hol := Ld.opened_len (Ld.read l).1; omega) | (have hol := Ld.opened_len l; omega) | (rw [Ld.tally_len]; omega))) [] [] (by decide) rfl _ rfl (RoOk.ro 0 rfl [] rfl RoOk.nil)) rfl ?_
    rintro _ _ ⟨_, ⟨V6, rfl, rfl⟩, rfl⟩
    refine O.p (Pu.move rfl) rfl ?_
    refine O.p (Pu.extract rfl rfl) rfl ?_
    refine O.p (Pu.extract rfl rfl) rfl ?_
    refine O.p (Pu.extract rfl rfl) rfl ?_
    refine O.p (Pu.assign rfl) rfl ?_
    refine O.p (Pu.assign rfl) rfl ?_
    refine O.p (Pu.assign rfl) rfl ?_
    refine O.nil ?_
    refine J.seq ?_
    refine J.region ?_
    refine O.p (Pu.move rfl) rfl ?_
    refine O.l (Lo.call [lv] (by exact Try.call29) rfl (r41_Read lv l (by first | omega | (have hrl := Ld.read_len l; omega) | (have hrl := Ld.read_len l; have hol := Ld.opened_len (Ld.read l).1; omega) | (have hol := Ld.opened_len l; omega) | (rw [Ld.tally_len]; omega))) [] [0] (by decide) rfl _ rfl (RoOk.ro 0 rfl [] rfl RoOk.nil)) rfl ?_
    rintro _ _ ⟨_, ⟨V8, rfl, rfl⟩, rfl⟩
    refine O.p (Pu.move rfl) rfl ?_
    refine O.p (Pu.extract rfl rfl) rfl ?_
    refine O.p (Pu.extract rfl rfl) rfl ?_
    refine O.p (Pu.extract rfl rfl) rfl ?_
    refine O.p (Pu.assign rfl) rfl ?_
    refine O.p (Pu.assign rfl) rfl ?_
    refine O.p (Pu.assign rfl) rfl ?_
    refine O.nil ?_
    refine J.seq ?_
    refine J.region ?_
    refine O.p (Pu.move rfl) rfl ?_
    refine O.p (Pu.move rfl) rfl ?_
    refine O.p (Pu.move rfl) rfl ?_
    refine O.l (Lo.call [.int .i64 s, .int .i64 id, V8] (by exact Try.call30) rfl (ld_Last s id V8 ((Ld.read l).1) (by first | omega | (have hrl := Ld.read_len l; omega) | (have hrl := Ld.read_len l; have hol := Ld.opened_len (Ld.read l).1; omega) | (have hol := Ld.opened_len l; omega) | (rw [Ld.tally_len]; omega))) [] [0, 1] (by decide) rfl _ rfl (RoOk.of 0 rfl row_rd [] (by decide) rfl RoOk.nil)) rfl ?_
    rintro _ _ ⟨_, ⟨rfl, rfl⟩, rfl⟩
    refine O.p (Pu.move rfl) rfl ?_
    refine O.p (Pu.extract rfl rfl) rfl ?_
    refine O.p (Pu.extract rfl rfl) rfl ?_
    refine O.l (Lo.alloc [.int .i64 0, .int .i64 0, .int .i64 0, .int .i64 0, .int .i64 0, .int .i64 0, .int .i64 0, .int .i64 0] (by exact Try.zeroValue61) rfl) rfl ?_
    rintro _ _ ⟨g11, rfl, rfl⟩
    refine O.l0 (Lo.store 0 (vs := [.int .i64 (((Ld.last ((Ld.read l).1) s id).1).s), .int .i64 (((Ld.last ((Ld.read l).1) s id).1).id), .int .i64 (((Ld.last ((Ld.read l).1) s id).1).state), .int .i64 (((Ld.last ((Ld.read l).1) s id).1).level), .int .i64 (((Ld.last ((Ld.read l).1) s id).1).code), .int .i64 (((Ld.last ((Ld.read l).1) s id).1).came), .int .i64 (((Ld.last ((Ld.read l).1) s id).1).began), .int .i64 (((Ld.last ((Ld.read l).1) s id).1).ended)]) [.int .i64 (((Ld.last ((Ld.read l).1) s id).1).s), .int .i64 (((Ld.last ((Ld.read l).1) s id).1).id), .int .i64 (((Ld.last ((Ld.read l).1) s id).1).state), .int .i64 (((Ld.last ((Ld.read l).1) s id).1).level), .int .i64 (((Ld.last ((Ld.read l).1) s id).1).code), .int .i64 (((Ld.last ((Ld.read l).1) s id).1).came), .int .i64 (((Ld.last ((Ld.read l).1) s id).1).began), .int .i64 (((Ld.last ((Ld.read l).1) s id).1).ended)] rfl rfl rfl (by exact Try.sizeOf61) rfl rfl rfl rfl rfl) ?_
    rintro _ _ rfl
    refine O.p (Pu.assign rfl) rfl ?_
    refine O.nil ?_
    refine J.seq ?_
    refine J.region ?_
    refine O.p (Pu.move rfl) rfl ?_
    refine O.p (Pu.move rfl) rfl ?_
    refine O.p (Pu.move rfl) rfl ?_
    refine O.l (Lo.call [.int .i64 s, .int .i64 id, V8] (by exact Try.call31) rfl (r41_Last s id V8 ((Ld.read l).1) (by first | omega | (have hrl := Ld.read_len l; omega) | (have hrl := Ld.read_len l; have hol := Ld.opened_len (Ld.read l).1; omega) | (have hol := Ld.opened_len l; omega) | (rw [Ld.tally_len]; omega))) [] [0, 1, 2] (by decide) rfl _ rfl (RoOk.of 1 rfl row_rd [] (by decide) rfl RoOk.nil)) rfl ?_
    rintro _ _ ⟨_, ⟨rfl, rfl⟩, rfl⟩
    refine O.p (Pu.move rfl) rfl ?_
    refine O.p (Pu.extract rfl rfl) rfl ?_
    refine O.p (Pu.extract rfl rfl) rfl ?_
    refine O.l (Lo.alloc [.int .i64 0, .int .i64 0, .int .i64 0, .int .i64 0, .int .i64 0, .int .i64 0, .int .i64 0, .int .i64 0] (by exact Try.zeroValue61) rfl) rfl ?_
    rintro _ _ ⟨g13, rfl, rfl⟩
    refine O.l0 (Lo.store 0 (vs := [.int .i64 (((Ld.last ((Ld.read l).1) s id).1).s), .int .i64 (((Ld.last ((Ld.read l).1) s id).1).id), .int .i64 (((Ld.last ((Ld.read l).1) s id).1).state), .int .i64 (((Ld.last ((Ld.read l).1) s id).1).level), .int .i64 (((Ld.last ((Ld.read l).1) s id).1).code), .int .i64 (((Ld.last ((Ld.read l).1) s id).1).came), .int .i64 (((Ld.last ((Ld.read l).1) s id).1).began), .int .i64 (((Ld.last ((Ld.read l).1) s id).1).ended)]) [.int .i64 (((Ld.last ((Ld.read l).1) s id).1).s), .int .i64 (((Ld.last ((Ld.read l).1) s id).1).id), .int .i64 (((Ld.last ((Ld.read l).1) s id).1).state), .int .i64 (((Ld.last ((Ld.read l).1) s id).1).level), .int .i64 (((Ld.last ((Ld.read l).1) s id).1).code), .int .i64 (((Ld.last ((Ld.read l).1) s id).1).came), .int .i64 (((Ld.last ((Ld.read l).1) s id).1).began), .int .i64 (((Ld.last ((Ld.read l).1) s id).1).ended)] rfl rfl rfl (by exact Try.sizeOf61) rfl rfl rfl rfl rfl) ?_
    rintro _ _ rfl
    refine O.p (Pu.assign rfl) rfl ?_
    refine O.nil ?_
    refine J.seq ?_
    refine J.region ?_
    refine O.p (Pu.move rfl) rfl ?_
    refine O.p (Pu.move rfl) rfl ?_
    refine O.l (Lo.call [V6, V8] (by exact Try.call32) rfl (r41_Same V6 V8 ((Ld.read l).1) (by first | omega | (have hrl := Ld.read_len l; omega) | (have hrl := Ld.read_len l; have hol := Ld.opened_len (Ld.read l).1; omega) | (have hol := Ld.opened_len l; omega) | (rw [Ld.tally_len]; omega))) [] [0, 1, 2, 3] (by decide) rfl _ rfl (RoOk.of 3 rfl row_rd [] (by decide) rfl (RoOk.of 2 rfl row_rd [] (by decide) rfl RoOk.nil))) rfl ?_
    rintro _ _ ⟨_, ⟨rfl, rfl⟩, rfl⟩
    refine O.p (Pu.move rfl) rfl ?_
    refine O.gq (t := 50) rfl rfl rfl rfl (Pu.qt (Pu.move rfl)) rfl ?_
    refine O.gq (t := 50) rfl rfl rfl rfl (Pu.qt (Pu.move rfl)) rfl ?_
    refine O.gq (t := 50) rfl rfl rfl rfl (Pu.qt (Pu.eql rfl rfl)) rfl ?_
    refine O.p (Pu.pickT rfl rfl rfl) rfl ?_
    refine O.p (Pu.move rfl) rfl ?_
    refine O.gq (t := 55) rfl rfl (by simp) rfl (Pu.qt (Pu.move rfl)) rfl ?_
    refine O.gq (t := 55) rfl rfl (by simp) rfl (Pu.qt (Pu.move rfl)) rfl ?_
    refine O.gq (t := 55) rfl rfl (by simp) rfl (Pu.qt (Pu.eql rfl rfl)) rfl ?_
    refine O.p (Pu.pickT rfl (by simp) rfl) rfl ?_
    refine O.p (Pu.move rfl) rfl ?_
    refine O.gq (t := 60) rfl rfl (by simp) rfl (Qt.ld rfl (Cel.var 1 rfl) (o := 0) (off := 0) rfl (Cut.agg [.int .i64 (((Ld.last ((Ld.read l).1) s id).1).s), .int .i64 (((Ld.last ((Ld.read l).1) s id).1).id), .int .i64 (((Ld.last ((Ld.read l).1) s id).1).state), .int .i64 (((Ld.last ((Ld.read l).1) s id).1).level), .int .i64 (((Ld.last ((Ld.read l).1) s id).1).code), .int .i64 (((Ld.last ((Ld.read l).1) s id).1).came), .int .i64 (((Ld.last ((Ld.read l).1) s id).1).began), .int .i64 (((Ld.last ((Ld.read l).1) s id).1).ended)] Try.isAgg61 Try.sizeOf61 rfl rfl)) rfl ?_
    refine O.gq (t := 60) rfl rfl (by simp) rfl (Qt.ld rfl (Cel.var 0 rfl) (o := 0) (off := 0) rfl (Cut.agg [.int .i64 (((Ld.last ((Ld.read l).1) s id).1).s), .int .i64 (((Ld.last ((Ld.read l).1) s id).1).id), .int .i64 (((Ld.last ((Ld.read l).1) s id).1).state), .int .i64 (((Ld.last ((Ld.read l).1) s id).1).level), .int .i64 (((Ld.last ((Ld.read l).1) s id).1).code), .int .i64 (((Ld.last ((Ld.read l).1) s id).1).came), .int .i64 (((Ld.last ((Ld.read l).1) s id).1).began), .int .i64 (((Ld.last ((Ld.read l).1) s id).1).ended)] Try.isAgg61 Try.sizeOf61 rfl rfl)) rfl ?_
    refine O.gq (t := 60) rfl rfl (by simp) rfl (Pu.qt (Pu.eqlI [((Ld.last ((Ld.read l).1) s id).1).s, ((Ld.last ((Ld.read l).1) s id).1).id, ((Ld.last ((Ld.read l).1) s id).1).state, ((Ld.last ((Ld.read l).1) s id).1).level, ((Ld.last ((Ld.read l).1) s id).1).code, ((Ld.last ((Ld.read l).1) s id).1).came, ((Ld.last ((Ld.read l).1) s id).1).began, ((Ld.last ((Ld.read l).1) s id).1).ended] [((Ld.last ((Ld.read l).1) s id).1).s, ((Ld.last ((Ld.read l).1) s id).1).id, ((Ld.last ((Ld.read l).1) s id).1).state, ((Ld.last ((Ld.read l).1) s id).1).level, ((Ld.last ((Ld.read l).1) s id).1).code, ((Ld.last ((Ld.read l).1) s id).1).came, ((Ld.last ((Ld.read l).1) s id).1).began, ((Ld.last ((Ld.read l).1) s id).1).ended] Try.underlying61 Try.stoodInHeld61 Try.eqGuardType61 (fint61 Try.underlying61) rfl rfl rfl rfl)) rfl ?_
    refine O.p (Pu.pickT rfl (by simp) rfl) rfl ?_
    refine O.p (Pu.move rfl) rfl ?_
    refine O.gq (t := 65) rfl rfl (by simp) rfl (Pu.qt (Pu.move rfl)) rfl ?_
    refine O.gq (t := 65) rfl rfl (by simp) rfl (Pu.qt (Pu.move rfl)) rfl ?_
    refine O.gq (t := 65) rfl rfl (by simp) rfl (Pu.qt (Pu.beql Try.underlying4 rfl rfl)) rfl ?_
    refine O.p (Pu.pickT rfl (by simp) rfl) rfl ?_
    refine O.p (Pu.move rfl) rfl ?_
    refine O.gq (t := 70) rfl rfl (by simp) rfl (Pu.qt (Pu.move rfl)) rfl ?_
    refine O.gl (t := 70) rfl rfl (by simp) rfl (Lo.call [V8] (by exact Try.call33) rfl (ld_Open V8 ((Ld.read l).1) (by first | omega | (have hrl := Ld.read_len l; omega) | (have hrl := Ld.read_len l; have hol := Ld.opened_len (Ld.read l).1; omega) | (have hol := Ld.opened_len l; omega) | (rw [Ld.tally_len]; omega))) [] [0, 1, 2, 3] (by decide) rfl _ rfl (RoOk.of 2 rfl row_rd [] (by decide) rfl RoOk.nil)) rfl ?_
    rintro v15 _ ⟨_, rfl, rfl⟩
    refine O.gq (t := 70) rfl rfl (by simp) rfl (Pu.qt (Pu.move rfl)) rfl ?_
    refine O.gl (t := 70) rfl rfl (by simp) rfl (Lo.call [V8] (by exact Try.call34) rfl (r41_Open V8 ((Ld.read l).1) (by first | omega | (have hrl := Ld.read_len l; omega) | (have hrl := Ld.read_len l; have hol := Ld.opened_len (Ld.read l).1; omega) | (have hol := Ld.opened_len l; omega) | (rw [Ld.tally_len]; omega))) [] [0, 1, 2, 3, 4] (by decide) rfl _ rfl (RoOk.of 3 rfl row_rd [] (by decide) rfl RoOk.nil)) rfl ?_
    rintro v16 _ ⟨_, rfl, rfl⟩
    refine O.gl (t := 70) rfl rfl (by simp) rfl (Lo.call [v15, v16] (by exact Try.call32) rfl (r41_Same v15 v16 (Ld.opened ((Ld.read l).1)) (by first | omega | (have hrl := Ld.read_len l; omega) | (have hrl := Ld.read_len l; have hol := Ld.opened_len (Ld.read l).1; omega) | (have hol := Ld.opened_len l; omega) | (rw [Ld.tally_len]; omega))) [] [0, 1, 2, 3, 4, 5] (by decide) rfl _ rfl (RoOk.of 1 rfl row_rd [] (by decide) rfl (RoOk.of 0 rfl row_rd [] (by decide) rfl RoOk.nil))) rfl ?_
    rintro _ _ ⟨_, ⟨rfl, rfl⟩, rfl⟩
    refine O.p (Pu.pickT rfl (by simp) rfl) rfl ?_
    refine O.p (Pu.move rfl) rfl ?_
    refine O.gq (t := 77) rfl rfl rfl rfl (Pu.qt (Pu.move rfl)) rfl ?_
    refine O.gl (t := 77) rfl rfl rfl rfl (Lo.call [V8] (by exact Try.call36) rfl (ld_Tally V8 ((Ld.read l).1) (by first | omega | (have hrl := Ld.read_len l; omega) | (have hrl := Ld.read_len l; have hol := Ld.opened_len (Ld.read l).1; omega) | (have hol := Ld.opened_len l; omega) | (rw [Ld.tally_len]; omega))) [] [0, 1, 2, 3, 4, 5] (by decide) rfl _ rfl (RoOk.of 4 rfl row_rd [] (by decide) rfl RoOk.nil)) rfl ?_
    rintro v18 _ ⟨_, rfl, rfl⟩
    refine O.gq (t := 77) rfl rfl rfl rfl (Pu.qt (Pu.move rfl)) rfl ?_
    refine O.gl (t := 77) rfl rfl rfl rfl (Lo.call [V8] (by exact Try.call37) rfl (r41_Tally V8 ((Ld.read l).1) (by first | omega | (have hrl := Ld.read_len l; omega) | (have hrl := Ld.read_len l; have hol := Ld.opened_len (Ld.read l).1; omega) | (have hol := Ld.opened_len l; omega) | (rw [Ld.tally_len]; omega))) [] [0, 1, 2, 3, 4, 5, 6] (by decide) rfl _ rfl (RoOk.of 5 rfl row_rd [] (by decide) rfl RoOk.nil)) rfl ?_
    rintro v19 _ ⟨_, rfl, rfl⟩
    refine O.gl (t := 77) rfl rfl rfl rfl (Lo.call [v18, v19] (by exact Try.call35) rfl (r01_Same v18 v19 (Ld.tally ((Ld.read l).1)) (by first | omega | (have hrl := Ld.read_len l; omega) | (have hrl := Ld.read_len l; have hol := Ld.opened_len (Ld.read l).1; omega) | (have hol := Ld.opened_len l; omega) | (rw [Ld.tally_len]; omega))) [] [0, 1, 2, 3, 4, 5, 6, 7] (by decide) rfl _ rfl (RoOk.of 1 rfl row_rd [] (by decide) rfl (RoOk.of 0 rfl row_rd [] (by decide) rfl RoOk.nil))) rfl ?_
    rintro _ _ ⟨_, ⟨rfl, rfl⟩, rfl⟩
    refine O.p (Pu.pickT rfl rfl rfl) rfl ?_
    refine O.p (Pu.move rfl) rfl ?_
    refine O.gq (t := 84) rfl rfl rfl rfl (Pu.qt (Pu.move rfl)) rfl ?_
    refine O.gq (t := 84) rfl rfl rfl rfl (Pu.qt (Pu.move rfl)) rfl ?_
    refine O.gl (t := 84) rfl rfl rfl rfl (Lo.call [V6, V8] (by exact Try.call38) rfl (ld_Same V6 V8 ((Ld.read l).1) (by first | omega | (have hrl := Ld.read_len l; omega) | (have hrl := Ld.read_len l; have hol := Ld.opened_len (Ld.read l).1; omega) | (have hol := Ld.opened_len l; omega) | (rw [Ld.tally_len]; omega))) [] [0, 1, 2, 3, 4, 5, 6, 7] (by decide) rfl _ rfl (RoOk.of 7 rfl row_rd [] (by decide) rfl (RoOk.of 6 rfl row_rd [] (by decide) rfl RoOk.nil))) rfl ?_
    rintro _ _ ⟨_, ⟨rfl, rfl⟩, rfl⟩
    refine O.p (Pu.pickT rfl rfl rfl) rfl ?_
    refine O.p (Pu.move rfl) rfl ?_
    refine O.gl (t := 89) rfl rfl rfl rfl (Lo.call [] (by exact Try.call27) rfl law41_awake [] [0, 1, 2, 3, 4, 5, 6, 7] (by decide) rfl _ rfl RoOk.nil) rfl ?_
    rintro _ _ ⟨_, ⟨rfl, rfl⟩, rfl⟩
    refine O.p (Pu.pickT rfl rfl rfl) rfl ?_
    refine O.p (Pu.assign rfl) rfl ?_
    refine O.nil ?_
    exact J.ret (Fin.ret (rs := [.tmp 6]) rfl [_] ⟨rfl, trivial⟩ [] (by decide) [] rfl ⟨rfl, rfl⟩)

end Go.Proofs.Ytghhjhjpccipaaa
