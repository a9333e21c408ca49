/-
  Walks, printed by a program of mine (lk.py): each function meets its contract.
-/
import Derived.KernelRfl
import Derived.Test.YtopemccmejgbpaaDoorDX5
namespace Go.Proofs.YtopemccmejgbpaaDoor
open Go Go.LK
set_option linter.unusedSimpArgs false

set_option maxRecDepth 100000 in
theorem law05_decTexts (n : Int) (x : Nat) (s : List UInt8) (hn : Dc.I64 n) (hx : x < 18446744073709551616) : Tri Tryd.prog 3 #[.int .i64 n, .int .u64 (Nat.cast x : Int), str s] [libW, var 0 (Hx.hexDigits.map valU8) 46] [] (fun v L' => v = .bool true ∧ L' = []) := by
  refine Tri.enter (args := [.int .i64 n, .int .u64 (Nat.cast x : Int), str s]) (body := _) 74 Tryd.func3 rfl Tryd.ntmps3 rfl ?_
  intro w0
  refine J.seq ?_
  refine J.region ?_
  refine O.p (Pu.assign rfl) rfl ?_
  refine O.nil ?_
  refine J.seq ?_
  refine J.seq ?_
  refine J.region ?_
  refine O.p (Pu.move rfl) rfl ?_
  refine O.p (Pu.sLen Tryd.runUnderlying9 rfl) rfl ?_
  refine O.p (Pu.gtr rfl rfl) rfl ?_
  refine O.nil ?_
  refine J.cond rfl (fun h1 => ?_) (fun h1 => ?_)
  ·
    have p2 := of_decide_eq_true h1
    refine J.seq ?_
    refine J.region ?_
    refine O.l (Lo.call [] (by exact Tryd.call6) rfl law05_awake [] [] (by decide) rfl _ rfl (RoOk.ro 0 rfl [] rfl (RoOk.ro 1 rfl [] rfl RoOk.nil))) rfl ?_
    rintro _ _ ⟨_, ⟨rfl, rfl⟩, rfl⟩
    refine O.p (Pu.assign rfl) rfl ?_
    refine O.nil ?_
    exact J.ret (Fin.ret (rs := [.tmp 6]) rfl [_] ⟨rfl, trivial⟩ [] (by decide) [] rfl ⟨rfl, rfl⟩)
  ·
    have p4 := of_decide_eq_false h1
    refine J.skip ?_
    refine J.seq ?_
    refine J.region ?_
    refine O.p (Pu.move rfl) rfl ?_
    refine O.l (Lo.call [str s] (by exact Tryd.call7) rfl (dec_Parse s (by first | omega | (unfold Dc.I64 at hn; omega))) [] [] (by decide) rfl _ rfl (RoOk.ro 0 rfl [] rfl RoOk.nil)) rfl ?_
    rintro _ _ ⟨_, ⟨rfl, rfl⟩, rfl⟩
    refine O.p (Pu.move rfl) rfl ?_
    refine O.p (Pu.extract rfl rfl) rfl ?_
    refine O.p (Pu.extract rfl rfl) rfl ?_
    refine O.p (Pu.assign rfl) rfl ?_
    refine O.p (Pu.assign rfl) rfl ?_
    refine O.nil ?_
    refine J.seq ?_
    refine J.region ?_
    refine O.p (Pu.move rfl) rfl ?_
    refine O.l (Lo.call [str s] (by exact Tryd.call8) rfl (r05_Parse s (by omega)) [] [] (by decide) rfl _ rfl RoOk.nil) rfl ?_
    rintro _ _ ⟨_, ⟨rfl, rfl⟩, rfl⟩
    refine O.p (Pu.move rfl) rfl ?_
    refine O.p (Pu.extract rfl rfl) rfl ?_
    refine O.p (Pu.extract rfl rfl) rfl ?_
    refine O.p (Pu.assign rfl) rfl ?_
    refine O.p (Pu.assign rfl) rfl ?_
    refine O.nil ?_
    refine J.seq ?_
    refine J.region ?_
    refine O.p (Pu.move rfl) rfl ?_
    refine O.l (Lo.call [str s] (by exact Tryd.call9) rfl (dec_ParseHex s) [] [] (by decide) rfl _ rfl (RoOk.ro 1 rfl [] rfl RoOk.nil)) rfl ?_
    rintro _ _ ⟨_, ⟨rfl, rfl⟩, rfl⟩
    refine O.p (Pu.move rfl) rfl ?_
    refine O.p (Pu.extract rfl rfl) rfl ?_
    refine O.p (Pu.extract rfl rfl) rfl ?_
    refine O.p (Pu.assign rfl) rfl ?_
    refine O.p (Pu.assign rfl) rfl ?_
    refine O.nil ?_
    refine J.seq ?_
    refine J.region ?_
    refine O.p (Pu.move rfl) rfl ?_
    refine O.l (Lo.call [str s] (by exact Tryd.call10) rfl (r05_ParseHex s) [] [] (by decide) rfl _ rfl RoOk.nil) rfl ?_
    rintro _ _ ⟨_, ⟨rfl, rfl⟩, rfl⟩
    refine O.p (Pu.move rfl) rfl ?_
    refine O.p (Pu.extract rfl rfl) rfl ?_
    refine O.p (Pu.extract rfl rfl) rfl ?_
    refine O.p (Pu.assign rfl) rfl ?_
    refine O.p (Pu.assign rfl) rfl ?_
    refine O.nil ?_
    refine J.seq ?_
    refine J.region ?_
    refine O.p (Pu.move rfl) rfl ?_
    refine O.l (Lo.call [.int .i64 n] (by exact Tryd.call11) rfl (dec_Text n (by first | omega | (unfold Dc.I64 at hn; omega)) (by first | omega | (unfold Dc.I64 at hn; omega))) [] [] (by decide) rfl _ rfl (RoOk.ro 0 rfl [] rfl RoOk.nil)) rfl ?_
    rintro _ _ ⟨_, ⟨rfl, rfl⟩, rfl⟩
    refine O.p (Pu.move rfl) rfl ?_
    refine O.l (Lo.call [.int .i64 n] (by exact Tryd.call12) rfl (r05_Text n (by assumption)) [] [] (by decide) rfl _ rfl RoOk.nil) rfl ?_
    rintro _ _ ⟨_, ⟨rfl, rfl⟩, rfl⟩
    refine O.p (Pu.sEql rfl rfl) rfl ?_
    refine O.p (Pu.move rfl) rfl ?_
    refine O.gq (t := 44) rfl rfl (by simp) rfl (Pu.qt (Pu.move rfl)) rfl ?_
    refine O.gq (t := 44) rfl rfl (by simp) rfl (Pu.qt (Pu.move rfl)) rfl ?_
    refine O.gq (t := 44) rfl rfl (by simp) rfl (Pu.qt (Pu.eql rfl rfl)) rfl ?_
    refine O.p (Pu.pickT rfl (by simp) rfl) rfl ?_
    refine O.p (Pu.move rfl) rfl ?_
    refine O.gq (t := 49) rfl rfl (by simp) rfl (Pu.qt (Pu.move rfl)) rfl ?_
    refine O.gq (t := 49) rfl rfl (by simp) rfl (Pu.qt (Pu.move rfl)) rfl ?_
    refine O.gq (t := 49) rfl rfl (by simp) rfl (Pu.qt (Pu.eql rfl rfl)) rfl ?_
    refine O.p (Pu.pickT rfl (by simp) rfl) rfl ?_
    refine O.p (Pu.move rfl) rfl ?_
    refine O.gq (t := 54) rfl rfl (by simp) rfl (Pu.qt (Pu.move rfl)) rfl ?_
    refine O.gl (t := 54) rfl rfl (by simp) rfl (Lo.call [.int .u64 (Nat.cast x : Int)] (by exact Tryd.call13) rfl (dec_Hex x (by assumption)) [] [] (by decide) rfl _ rfl (RoOk.ro 1 rfl [] rfl RoOk.nil)) rfl ?_
    rintro _ _ ⟨_, ⟨rfl, rfl⟩, rfl⟩
    refine O.gq (t := 54) rfl rfl (by simp) rfl (Pu.qt (Pu.move rfl)) rfl ?_
    refine O.gl (t := 54) rfl rfl (by simp) rfl (Lo.call [.int .u64 (Nat.cast x : Int)] (by exact Tryd.call14) rfl (r05_Hex x (by assumption)) [] [] (by decide) rfl _ rfl RoOk.nil) rfl ?_
    rintro _ _ ⟨_, ⟨rfl, rfl⟩, rfl⟩
    refine O.gq (t := 54) rfl rfl (by simp) rfl (Pu.qt (Pu.sEql rfl rfl)) rfl ?_
    refine O.p (Pu.pickT rfl (by simp) rfl) rfl ?_
    refine O.p (Pu.move rfl) rfl ?_
    refine O.gq (t := 61) rfl rfl (by simp) rfl (Pu.qt (Pu.move rfl)) rfl ?_
    refine O.gq (t := 61) rfl rfl (by simp) rfl (Pu.qt (Pu.move rfl)) rfl ?_
    refine O.gq (t := 61) rfl rfl (by simp) rfl (Pu.qt (Pu.eql rfl rfl)) rfl ?_
    refine O.p (Pu.pickT rfl (by simp) rfl) rfl ?_
    refine O.p (Pu.move rfl) rfl ?_
    refine O.gq (t := 66) rfl rfl (by simp) rfl (Pu.qt (Pu.move rfl)) rfl ?_
    refine O.gq (t := 66) rfl rfl (by simp) rfl (Pu.qt (Pu.move rfl)) rfl ?_
    refine O.gq (t := 66) rfl rfl (by simp) rfl (Pu.qt (Pu.eql rfl rfl)) rfl ?_
    refine O.p (Pu.pickT rfl (by simp) rfl) rfl ?_
    refine O.p (Pu.move rfl) rfl ?_
    refine O.gl (t := 71) rfl rfl (by simp) rfl (Lo.call [] (by exact Tryd.call6) rfl law05_awake [] [] (by decide) rfl _ rfl (RoOk.ro 0 rfl [] rfl (RoOk.ro 1 rfl [] rfl RoOk.nil))) rfl ?_
    rintro _ _ ⟨_, ⟨rfl, rfl⟩, rfl⟩
    refine O.p (Pu.pickT rfl (by simp) rfl) rfl ?_
    refine O.p (Pu.assign rfl) rfl ?_
    refine O.nil ?_
    exact J.ret (Fin.ret (rs := [.tmp 6]) rfl [_] ⟨rfl, trivial⟩ [] (by decide) [] rfl ⟨rfl, rfl⟩)

end Go.Proofs.YtopemccmejgbpaaDoor
