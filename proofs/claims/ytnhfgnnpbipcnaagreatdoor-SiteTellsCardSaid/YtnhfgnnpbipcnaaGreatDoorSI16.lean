/-
  Walks, printed by a program of mine (lk.py): each function meets its contract.
-/
import Derived.KernelRfl
import Derived.Test.YtnhfgnnpbipcnaaGreatDoorSI14
namespace Go.Proofs.YtnhfgnnpbipcnaaGreatDoor
open Go Go.LK
set_option linter.unusedSimpArgs false

set_option maxRecDepth 100000 in
set_option maxHeartbeats 4000000 in
theorem law30_siteTells (b c r : Int) (n : Nat) (sv : Value) (l : List Sg) (b2 c2 r2 : Int) (n2 : Nat) (sv2 : Value) (l2 : List Sg) (m : Int) (hI : Si.okS l) (hI3 : Kn.I64s [b, c, r]) (hn : n < 18446744073709551616) (hn2 : n2 < 18446744073709551616) : Tri Tryz.prog 3 #[.agg #[.int .i64 b, .int .i64 c, .int .i64 r, .int .u64 (Nat.cast n : Int), sv], .agg #[.int .i64 b2, .int .i64 c2, .int .i64 r2, .int .u64 (Nat.cast n2 : Int), sv2], .int .i64 m] [libW, var 0 (Hx.hexDigits.map valU8) 101, var 1 (Kn.names.map vS) 144, rd sv 14 (l.map Sg.cells), ros (l.map Sg.rd), rd sv2 14 (l2.map Sg.cells), ros (l2.map Sg.rd)] [] (fun v L' => v = .bool true ∧ L' = []) := by
  refine Tri.en F3 rfl K3 rfl fun w0 => ?_
  refine J.co 2 rfl ?_
  refine O.one (Src.ro 3 rfl) (fun hV2 => ?_)
  refine O.l (Lo.bx rfl rfl) rfl ?_
  rintro _ _ ⟨g1, rfl, rfl⟩
  refine O.one (Src.ro 5 rfl) (fun hV4 => ?_)
  refine O.l (Lo.bx rfl rfl) rfl ?_
  rintro _ _ ⟨g3, rfl, rfl⟩
  refine O.oo 5 rfl ?_
  refine O.q (Qt.lva 1 A25 Z25 rfl rfl rfl) rfl ?_
  refine O.l (Lo.ca C7 (l30_few b c r n sv l) [] rfl rfl (.ro 3 rfl (.ro 4 rfl .nil))) rfl ?_
  rintro _ _ ⟨_, ⟨q5, rfl, hf6, rfl⟩, rfl⟩
  refine O.oo 2 rfl ?_
  refine O.sp 12 rfl (fun h8 => ?_) (fun h8 => ?_)
  ·
    have h9 : q5 = false := not_flip h8
    refine O.oo 8 rfl ?_
    refine O.l (Lo.ca C8 law30_awake [] rfl rfl (.ro 0 rfl (.ro 1 rfl (.ro 2 rfl .nil)))) rfl ?_
    rintro _ _ ⟨_, ⟨rfl, rfl⟩, rfl⟩
    refine O.oc 2 rfl ?_
    exact J.r0 rfl rfl ⟨rfl, rfl⟩
  ·
    have h11 : q5 = true := not_flip h8
    refine O.gq (t := 12) rfl rfl rfl rfl (Qt.lva 0 A25 Z25 rfl rfl rfl) rfl ?_
    refine O.gl (t := 12) rfl rfl rfl rfl (Lo.ca C7 (l30_few b2 c2 r2 n2 sv2 l2) [] rfl rfl (.ro 5 rfl (.ro 6 rfl .nil))) rfl ?_
    rintro _ _ ⟨_, ⟨q12, rfl, hf13, rfl⟩, rfl⟩
    refine O.oc 3 rfl ?_
    refine J.cond rfl (fun h15 => ?_) (fun h15 => ?_)
    ·
      have h16 : q12 = false := not_flip h15
      refine J.co 2 rfl ?_
      refine O.l (Lo.ca C8 law30_awake [] rfl rfl (.ro 0 rfl (.ro 1 rfl (.ro 2 rfl .nil)))) rfl ?_
      rintro _ _ ⟨_, ⟨rfl, rfl⟩, rfl⟩
      refine O.oc 2 rfl ?_
      exact J.r0 rfl rfl ⟨rfl, rfl⟩
    ·
      have h18 : q12 = true := not_flip h15
      refine J.cc 2 rfl ?_
      rcases Si.m_cases m with hm | ⟨m_, rfl, h1, h8⟩
      ·
        have hfw := hf6 (by assumption)
        have hfw2 := hf13 (by assumption)
        refine J.co 2 rfl ?_
        refine O.l (Lo.ca C9 (si_UsualNo m hm) [] rfl rfl .nil) rfl ?_
        rintro _ _ ⟨_, ⟨rfl, rfl⟩, rfl⟩
        refine O.oo 3 rfl ?_
        refine O.l (Lo.al Y25 rfl) rfl ?_
        rintro _ _ ⟨g20, rfl, rfl⟩
        refine O.l0 (Lo.st 0 Z25 rfl rfl rfl rfl rfl rfl rfl) ?_
        rintro _ _ rfl
        refine O.oo 8 rfl ?_
        refine O.sd 25 rfl (fun p21 => ?_) (fun p21 => ?_)
        ·
          refine O.oc 6 rfl ?_
          refine J.nr 47 14 (([] : List Sg).map Sg.cells) rfl ?_
          refine J.nb (([] : List Sg).map (Sg.row 50)) rfl ?_
          refine J.co 4 rfl ?_
          refine O.gq (t := 31) rfl rfl rfl rfl (Qt.lva 2 A25 Z25 rfl rfl rfl) rfl ?_
          refine O.gq (t := 31) rfl rfl rfl rfl (Pu.qt (Pu.build [] [.int .i64 0, .int .i64 0, .int .i64 0, .int .u64 0, Value.slice none 0 0] #[(0, 1), (1, 1), (2, 1), (3, 1), (4, 1)] U25 Y25 (places25 N25) rfl (by kernel_rfl))) rfl ?_
          refine O.gl (t := 31) rfl rfl rfl rfl (Lo.ca C10 (r30_Same 0 0 0 0 (Value.slice none 0 0) ([] : List Sg) 0 0 0 0 (Value.slice none 0 0) ([] : List Sg) (by have h_ := ((⟨Nat.zero_le _, fun _ h => by cases h⟩ : Si.fewP [])).1; omega) (fun s_ hs_ => by have h_ := ((⟨Nat.zero_le _, fun _ h => by cases h⟩ : Si.fewP [])).2 s_ hs_; omega) (by have h_ := ((⟨Nat.zero_le _, fun _ h => by cases h⟩ : Si.fewP [])).1; omega) (fun s_ hs_ => by have h_ := ((⟨Nat.zero_le _, fun _ h => by cases h⟩ : Si.fewP [])).2 s_ hs_; omega)) [] rfl rfl (.of 1 row_rd rfl rfl (.of 0 sg_ros rfl rfl (.of 1 row_rd rfl rfl (.of 0 sg_ros rfl rfl .nil))))) rfl ?_
          rintro _ _ ⟨_, ⟨rfl, rfl⟩, rfl⟩
          refine O.oc 3 rfl ?_
          refine J.condF rfl (not_of_true Si.same_self) ?_
          refine J.cc 2 rfl ?_
          refine J.dm [(0, false), (2, false), (1, true), (3, true), (4, false), (5, false), (6, false), (8, false), (7, true), (9, true), (10, false), (11, false), (12, false), (13, false), (15, false), (14, true), (16, true), (17, false), (18, false), (19, false), (20, false), (21, false), (23, false), (24, false), (22, true), (25, true), (26, false), (27, false), (28, false), (29, false), (30, false), (31, true), (32, false), (33, false), (34, true), (35, false), (36, false)] [3, 4] Tryz.mixed (by kernel_rfl) rfl ?_
          refine Mx.q rfl (Qt.lva 1 A25 Z25 rfl rfl rfl) rfl ?_
          refine Mx.q rfl (Qt.lva 1 A25 Z25 rfl rfl rfl) rfl ?_
          refine Mx.l rfl (Lo.ca C12 (si_Check b c r n sv l (by have h_ := (hfw).1; omega) (fun s_ hs_ => by have h_ := (hfw).2 s_ hs_; omega)) [] rfl rfl (.ro 3 rfl (.ro 4 rfl .nil))) rfl ?_
          rintro _ _ ⟨_, ⟨rfl, rfl⟩, rfl⟩
          refine MxK.gp [3, 4] [0, 1] rfl rfl ?_
          refine Mx.l rfl (Lo.ca C13 (r30_Check b c r n sv l (by have h_ := (hfw).1; omega) (fun s_ hs_ => by have h_ := (hfw).2 s_ hs_; omega)) [] rfl rfl (.ro 3 rfl (.ro 4 rfl .nil))) rfl ?_
          rintro _ _ ⟨_, ⟨rfl, rfl⟩, rfl⟩
          refine MxK.al [3, 4] rfl (by kernel_rfl) ?_
          refine Mx.r 2 rfl ?_
          refine Mx.gq (t := 56) rfl rfl rfl (by simp) rfl (Qt.lva 1 A25 Z25 rfl rfl rfl) rfl ?_
          refine Mx.gq (t := 56) rfl rfl rfl (by simp) rfl (Qt.lva 1 A25 Z25 rfl rfl rfl) rfl ?_
          refine Mx.gl (t := 56) rfl rfl rfl (by simp) rfl (Lo.ca C14 (si_Levels b c r n sv l) [] rfl rfl (.ro 3 rfl (.ro 4 rfl .nil))) rfl ?_
          rintro _ _ ⟨_, ⟨rfl, rfl⟩, rfl⟩
          refine MxK.gp [3, 4] [0, 1] rfl rfl ?_
          refine Mx.gl (t := 56) rfl rfl rfl (by simp) rfl (Lo.ca C15 (r30_Levels b c r n sv l) [] rfl rfl (.ro 3 rfl (.ro 4 rfl .nil))) rfl ?_
          rintro _ _ ⟨_, ⟨rfl, rfl⟩, rfl⟩
          refine MxK.gp [3, 4] [0, 1] rfl rfl ?_
          refine Mx.gq (t := 56) rfl rfl rfl (by simp) rfl (Pu.qt (Pu.eql rfl rfl)) rfl ?_
          refine Mx.p rfl (Pu.pickT rfl (by simp) rfl) rfl ?_
          refine Mx.r 1 rfl ?_
          refine Mx.gq (t := 63) rfl rfl rfl (by simp) rfl (Qt.lva 1 A25 Z25 rfl rfl rfl) rfl ?_
          refine Mx.gq (t := 63) rfl rfl rfl (by simp) rfl (Qt.lva 1 A25 Z25 rfl rfl rfl) rfl ?_
          refine Mx.gl (t := 63) rfl rfl rfl (by simp) rfl (Lo.ca C16 (si_Text b c r n sv l hfw.1 hfw.2 hI hI3 hn) [] rfl rfl (.ro 0 rfl (.ro 2 rfl (.ro 1 rfl (.ro 3 rfl (.ro 4 rfl .nil)))))) rfl ?_
          rintro _ _ ⟨_, ⟨rfl, rfl⟩, rfl⟩
          refine MxK.gp [3, 4] [0, 1] rfl rfl ?_
          refine Mx.gl (t := 63) rfl rfl rfl (by simp) rfl (Lo.ca C17 (r30_Text b c r n sv l hfw.1 hfw.2 hI hI3 hn) [] rfl rfl (.ro 3 rfl (.ro 4 rfl .nil))) rfl ?_
          rintro _ _ ⟨_, ⟨rfl, rfl⟩, rfl⟩
          refine MxK.gp [3, 4] [0, 1] rfl rfl ?_
          refine Mx.gq (t := 63) rfl rfl rfl (by simp) rfl (Pu.qt (Pu.sEql rfl rfl)) rfl ?_
          refine Mx.p rfl (Pu.pickT rfl (by simp) rfl) rfl ?_
          refine Mx.r 1 rfl ?_
          refine Mx.gq (t := 70) rfl rfl rfl (by simp) rfl (Qt.lva 1 A25 Z25 rfl rfl rfl) rfl ?_
          refine Mx.gq (t := 70) rfl rfl rfl (by simp) rfl (Qt.lva 0 A25 Z25 rfl rfl rfl) rfl ?_
          refine Mx.gq (t := 70) rfl rfl rfl (by simp) rfl (Qt.lva 1 A25 Z25 rfl rfl rfl) rfl ?_
          refine Mx.gq (t := 70) rfl rfl rfl (by simp) rfl (Qt.lva 0 A25 Z25 rfl rfl rfl) rfl ?_
          refine Mx.gl (t := 70) rfl rfl rfl (by simp) rfl (Lo.ca C18 (si_Same b c r n sv l b2 c2 r2 n2 sv2 l2 (by have h_ := (hfw).1; omega) (fun s_ hs_ => by have h_ := (hfw).2 s_ hs_; omega) (by have h_ := (hfw2).1; omega) (fun s_ hs_ => by have h_ := (hfw2).2 s_ hs_; omega)) [] rfl rfl (.ro 3 rfl (.ro 4 rfl (.ro 5 rfl (.ro 6 rfl .nil))))) rfl ?_
          rintro _ _ ⟨_, ⟨rfl, rfl⟩, rfl⟩
          refine MxK.gp [3, 4] [0, 1] rfl rfl ?_
          refine Mx.gl (t := 70) rfl rfl rfl (by simp) rfl (Lo.ca C10 (r30_Same b c r n sv l b2 c2 r2 n2 sv2 l2 (by have h_ := (hfw).1; omega) (fun s_ hs_ => by have h_ := (hfw).2 s_ hs_; omega) (by have h_ := (hfw2).1; omega) (fun s_ hs_ => by have h_ := (hfw2).2 s_ hs_; omega)) [] rfl rfl (.ro 3 rfl (.ro 4 rfl (.ro 5 rfl (.ro 6 rfl .nil))))) rfl ?_
          rintro _ _ ⟨_, ⟨rfl, rfl⟩, rfl⟩
          refine MxK.gp [3, 4] [0, 1] rfl rfl ?_
          refine Mx.gq (t := 70) rfl rfl rfl (by simp) rfl (Pu.qt (Pu.beql N4 rfl rfl)) rfl ?_
          refine Mx.p rfl (Pu.pickT rfl (by simp) rfl) rfl ?_
          refine Mx.r 1 rfl ?_
          refine Mx.gq (t := 79) rfl rfl rfl (by simp) rfl (Qt.lva 1 A25 Z25 rfl rfl rfl) rfl ?_
          refine Mx.gq (t := 79) rfl rfl rfl (by simp) rfl (Qt.lva 1 A25 Z25 rfl rfl rfl) rfl ?_
          refine Mx.gl (t := 79) rfl rfl rfl (by simp) rfl (Lo.ca C18 (si_Same b c r n sv l b c r n sv l (by have h_ := (hfw).1; omega) (fun s_ hs_ => by have h_ := (hfw).2 s_ hs_; omega) (by have h_ := (hfw).1; omega) (fun s_ hs_ => by have h_ := (hfw).2 s_ hs_; omega)) [] rfl rfl (.ro 3 rfl (.ro 4 rfl (.ro 3 rfl (.ro 4 rfl .nil))))) rfl ?_
          rintro _ _ ⟨_, ⟨rfl, rfl⟩, rfl⟩
          refine MxK.gp [3, 4] [0, 1] rfl rfl ?_
          refine Mx.p rfl (Pu.pickT rfl (by simp) rfl) rfl ?_
          refine Mx.r 1 rfl ?_
          refine Mx.gl (t := 84) rfl rfl rfl Si.same_self rfl (Lo.ca C8 law30_awake [] rfl rfl (.ro 0 rfl (.ro 1 rfl (.ro 2 rfl .nil)))) rfl ?_
          rintro _ _ ⟨_, ⟨rfl, rfl⟩, rfl⟩
          refine MxK.gp [3, 4] [0, 1] rfl rfl ?_
          refine Mx.p rfl (Pu.pickT rfl Si.same_self rfl) rfl ?_
          refine Mx.r 1 rfl ?_
          refine Mx.nil ?_
          exact J.r0 rfl rfl ⟨rfl, rfl⟩
        ·
          refine O.oc 4 rfl ?_
          refine J.cd rfl (fun p33 => ?_) (fun p33 => ?_)
          ·
            refine J.seq ?_
            refine J.nr 47 14 (([] : List Sg).map Sg.cells) rfl ?_
            refine J.nb (([] : List Sg).map (Sg.row 50)) rfl ?_
            refine J.co 4 rfl ?_
            refine O.gq (t := 31) rfl rfl rfl rfl (Qt.lva 2 A25 Z25 rfl rfl rfl) rfl ?_
            refine O.gq (t := 31) rfl rfl rfl rfl (Pu.qt (Pu.build [] [.int .i64 0, .int .i64 0, .int .i64 0, .int .u64 0, Value.slice none 0 0] #[(0, 1), (1, 1), (2, 1), (3, 1), (4, 1)] U25 Y25 (places25 N25) rfl (by kernel_rfl))) rfl ?_
            refine O.gl (t := 31) rfl rfl rfl rfl (Lo.ca C10 (r30_Same 0 0 0 0 (Value.slice none 0 0) ([] : List Sg) 0 0 0 0 (Value.slice none 0 0) ([] : List Sg) (by have h_ := ((⟨Nat.zero_le _, fun _ h => by cases h⟩ : Si.fewP [])).1; omega) (fun s_ hs_ => by have h_ := ((⟨Nat.zero_le _, fun _ h => by cases h⟩ : Si.fewP [])).2 s_ hs_; omega) (by have h_ := ((⟨Nat.zero_le _, fun _ h => by cases h⟩ : Si.fewP [])).1; omega) (fun s_ hs_ => by have h_ := ((⟨Nat.zero_le _, fun _ h => by cases h⟩ : Si.fewP [])).2 s_ hs_; omega)) [] rfl rfl (.of 1 row_rd rfl rfl (.of 0 sg_ros rfl rfl (.of 1 row_rd rfl rfl (.of 0 sg_ros rfl rfl .nil))))) rfl ?_
            rintro _ _ ⟨_, ⟨rfl, rfl⟩, rfl⟩
            refine O.oc 3 rfl ?_
            refine J.condF rfl (not_of_true Si.same_self) ?_
            refine J.cc 2 rfl ?_
            refine J.dm [(0, false), (2, false), (1, true), (3, true), (4, false), (5, false), (6, false), (8, false), (7, true), (9, true), (10, false), (11, false), (12, false), (13, false), (15, false), (14, true), (16, true), (17, false), (18, false), (19, false), (20, false), (21, false), (23, false), (24, false), (22, true), (25, true), (26, false), (27, false), (28, false), (29, false), (30, false), (31, true), (32, false), (33, false), (34, true), (35, false), (36, false)] [3, 4] Tryz.mixed (by kernel_rfl) rfl ?_
            refine Mx.q rfl (Qt.lva 1 A25 Z25 rfl rfl rfl) rfl ?_
            refine Mx.q rfl (Qt.lva 1 A25 Z25 rfl rfl rfl) rfl ?_
            refine Mx.l rfl (Lo.ca C12 (si_Check b c r n sv l (by have h_ := (hfw).1; omega) (fun s_ hs_ => by have h_ := (hfw).2 s_ hs_; omega)) [] rfl rfl (.ro 3 rfl (.ro 4 rfl .nil))) rfl ?_
            rintro _ _ ⟨_, ⟨rfl, rfl⟩, rfl⟩
            refine MxK.gp [3, 4] [0, 1] rfl rfl ?_
            refine Mx.l rfl (Lo.ca C13 (r30_Check b c r n sv l (by have h_ := (hfw).1; omega) (fun s_ hs_ => by have h_ := (hfw).2 s_ hs_; omega)) [] rfl rfl (.ro 3 rfl (.ro 4 rfl .nil))) rfl ?_
            rintro _ _ ⟨_, ⟨rfl, rfl⟩, rfl⟩
            refine MxK.al [3, 4] rfl (by kernel_rfl) ?_
            refine Mx.r 2 rfl ?_
            refine Mx.gq (t := 56) rfl rfl rfl (by simp) rfl (Qt.lva 1 A25 Z25 rfl rfl rfl) rfl ?_
            refine Mx.gq (t := 56) rfl rfl rfl (by simp) rfl (Qt.lva 1 A25 Z25 rfl rfl rfl) rfl ?_
            refine Mx.gl (t := 56) rfl rfl rfl (by simp) rfl (Lo.ca C14 (si_Levels b c r n sv l) [] rfl rfl (.ro 3 rfl (.ro 4 rfl .nil))) rfl ?_
            rintro _ _ ⟨_, ⟨rfl, rfl⟩, rfl⟩
            refine MxK.gp [3, 4] [0, 1] rfl rfl ?_
            refine Mx.gl (t := 56) rfl rfl rfl (by simp) rfl (Lo.ca C15 (r30_Levels b c r n sv l) [] rfl rfl (.ro 3 rfl (.ro 4 rfl .nil))) rfl ?_
            rintro _ _ ⟨_, ⟨rfl, rfl⟩, rfl⟩
            refine MxK.gp [3, 4] [0, 1] rfl rfl ?_
            refine Mx.gq (t := 56) rfl rfl rfl (by simp) rfl (Pu.qt (Pu.eql rfl rfl)) rfl ?_
            refine Mx.p rfl (Pu.pickT rfl (by simp) rfl) rfl ?_
            refine Mx.r 1 rfl ?_
            refine Mx.gq (t := 63) rfl rfl rfl (by simp) rfl (Qt.lva 1 A25 Z25 rfl rfl rfl) rfl ?_
            refine Mx.gq (t := 63) rfl rfl rfl (by simp) rfl (Qt.lva 1 A25 Z25 rfl rfl rfl) rfl ?_
            refine Mx.gl (t := 63) rfl rfl rfl (by simp) rfl (Lo.ca C16 (si_Text b c r n sv l hfw.1 hfw.2 hI hI3 hn) [] rfl rfl (.ro 0 rfl (.ro 2 rfl (.ro 1 rfl (.ro 3 rfl (.ro 4 rfl .nil)))))) rfl ?_
            rintro _ _ ⟨_, ⟨rfl, rfl⟩, rfl⟩
            refine MxK.gp [3, 4] [0, 1] rfl rfl ?_
            refine Mx.gl (t := 63) rfl rfl rfl (by simp) rfl (Lo.ca C17 (r30_Text b c r n sv l hfw.1 hfw.2 hI hI3 hn) [] rfl rfl (.ro 3 rfl (.ro 4 rfl .nil))) rfl ?_
            rintro _ _ ⟨_, ⟨rfl, rfl⟩, rfl⟩
            refine MxK.gp [3, 4] [0, 1] rfl rfl ?_
            refine Mx.gq (t := 63) rfl rfl rfl (by simp) rfl (Pu.qt (Pu.sEql rfl rfl)) rfl ?_
            refine Mx.p rfl (Pu.pickT rfl (by simp) rfl) rfl ?_
            refine Mx.r 1 rfl ?_
            refine Mx.gq (t := 70) rfl rfl rfl (by simp) rfl (Qt.lva 1 A25 Z25 rfl rfl rfl) rfl ?_
            refine Mx.gq (t := 70) rfl rfl rfl (by simp) rfl (Qt.lva 0 A25 Z25 rfl rfl rfl) rfl ?_
            refine Mx.gq (t := 70) rfl rfl rfl (by simp) rfl (Qt.lva 1 A25 Z25 rfl rfl rfl) rfl ?_
            refine Mx.gq (t := 70) rfl rfl rfl (by simp) rfl (Qt.lva 0 A25 Z25 rfl rfl rfl) rfl ?_
            refine Mx.gl (t := 70) rfl rfl rfl (by simp) rfl (Lo.ca C18 (si_Same b c r n sv l b2 c2 r2 n2 sv2 l2 (by have h_ := (hfw).1; omega) (fun s_ hs_ => by have h_ := (hfw).2 s_ hs_; omega) (by have h_ := (hfw2).1; omega) (fun s_ hs_ => by have h_ := (hfw2).2 s_ hs_; omega)) [] rfl rfl (.ro 3 rfl (.ro 4 rfl (.ro 5 rfl (.ro 6 rfl .nil))))) rfl ?_
            rintro _ _ ⟨_, ⟨rfl, rfl⟩, rfl⟩
            refine MxK.gp [3, 4] [0, 1] rfl rfl ?_
            refine Mx.gl (t := 70) rfl rfl rfl (by simp) rfl (Lo.ca C10 (r30_Same b c r n sv l b2 c2 r2 n2 sv2 l2 (by have h_ := (hfw).1; omega) (fun s_ hs_ => by have h_ := (hfw).2 s_ hs_; omega) (by have h_ := (hfw2).1; omega) (fun s_ hs_ => by have h_ := (hfw2).2 s_ hs_; omega)) [] rfl rfl (.ro 3 rfl (.ro 4 rfl (.ro 5 rfl (.ro 6 rfl .nil))))) rfl ?_
            rintro _ _ ⟨_, ⟨rfl, rfl⟩, rfl⟩
            refine MxK.gp [3, 4] [0, 1] rfl rfl ?_
            refine Mx.gq (t := 70) rfl rfl rfl (by simp) rfl (Pu.qt (Pu.beql N4 rfl rfl)) rfl ?_
            refine Mx.p rfl (Pu.pickT rfl (by simp) rfl) rfl ?_
            refine Mx.r 1 rfl ?_
            refine Mx.gq (t := 79) rfl rfl rfl (by simp) rfl (Qt.lva 1 A25 Z25 rfl rfl rfl) rfl ?_
            refine Mx.gq (t := 79) rfl rfl rfl (by simp) rfl (Qt.lva 1 A25 Z25 rfl rfl rfl) rfl ?_
            refine Mx.gl (t := 79) rfl rfl rfl (by simp) rfl (Lo.ca C18 (si_Same b c r n sv l b c r n sv l (by have h_ := (hfw).1; omega) (fun s_ hs_ => by have h_ := (hfw).2 s_ hs_; omega) (by have h_ := (hfw).1; omega) (fun s_ hs_ => by have h_ := (hfw).2 s_ hs_; omega)) [] rfl rfl (.ro 3 rfl (.ro 4 rfl (.ro 3 rfl (.ro 4 rfl .nil))))) rfl ?_
            rintro _ _ ⟨_, ⟨rfl, rfl⟩, rfl⟩
            refine MxK.gp [3, 4] [0, 1] rfl rfl ?_
            refine Mx.p rfl (Pu.pickT rfl (by simp) rfl) rfl ?_
            refine Mx.r 1 rfl ?_
            refine Mx.gl (t := 84) rfl rfl rfl Si.same_self rfl (Lo.ca C8 law30_awake [] rfl rfl (.ro 0 rfl (.ro 1 rfl (.ro 2 rfl .nil)))) rfl ?_
            rintro _ _ ⟨_, ⟨rfl, rfl⟩, rfl⟩
            refine MxK.gp [3, 4] [0, 1] rfl rfl ?_
            refine Mx.p rfl (Pu.pickT rfl Si.same_self rfl) rfl ?_
            refine Mx.r 1 rfl ?_
            refine Mx.nil ?_
            exact J.r0 rfl rfl ⟨rfl, rfl⟩
          ·
            exfalso; omega
      ·
        have hfw := hf6 (by assumption)
        have hfw2 := hf13 (by assumption)
        refine J.co 2 rfl ?_
        refine O.l (Lo.ca C9 (si_Usual m_ h1 h8) [] rfl rfl .nil) rfl ?_
        rintro _ _ ⟨_, ⟨V45, l45, rfl, hd45, rfl⟩, rfl⟩
        refine O.oo 3 rfl ?_
        refine O.l (Lo.al Y25 rfl) rfl ?_
        rintro _ _ ⟨g47, rfl, rfl⟩
        refine O.one (Src.row 1 rfl) (fun hV48 => ?_)
        refine O.l0 (Lo.st 0 Z25 rfl rfl rfl rfl rfl (by simp only [List.all_cons, List.all_nil, Bool.and_true, hV48] <;> rfl) rfl) ?_
        rintro _ _ rfl
        refine O.oo 8 rfl ?_
        refine O.kf 25 rfl (decide_eq_false (by omega)) ?_
        refine O.oc 4 rfl ?_
        refine J.condF rfl (decide_eq_false (by omega)) ?_
        refine J.seq ?_
        refine J.dm [(0, false), (1, false), (2, false), (3, false), (4, false), (5, true), (6, true), (7, false), (8, false), (9, false), (10, false), (11, true), (12, false), (13, false)] [0] Tryz.mixed (by kernel_rfl) rfl ?_
        refine Mx.r 3 rfl ?_
        refine Mx.gq (t := 39) rfl rfl rfl rfl rfl (Qt.lva 0 A25 Z25 rfl rfl rfl) rfl ?_
        refine Mx.r 1 rfl ?_
        refine Mx.gl (t := 39) rfl rfl rfl rfl rfl (Lo.ca C11 (r30_Usual m_ h8) [] rfl rfl .nil) rfl ?_
        rintro _ _ ⟨_, ⟨V49, l49, rfl, hd49, rfl⟩, rfl⟩
        refine MxK.gp [2] [0] rfl rfl ?_
        refine Mx.gl (t := 39) rfl rfl rfl rfl rfl (Lo.ca C10 (r30_Same 2 4 1000 1 V45 l45 2 4 1000 1 V49 l49 (by have h_ := (Si.us_few hd45 h8).1; omega) (fun s_ hs_ => by have h_ := (Si.us_few hd45 h8).2 s_ hs_; omega) (by have h_ := (Si.us_few hd49 h8).1; omega) (fun s_ hs_ => by have h_ := (Si.us_few hd49 h8).2 s_ hs_; omega)) [] rfl rfl (.of 3 row_rd rfl rfl (.of 4 sg_ros rfl rfl (.of 0 row_rd rfl rfl (.of 1 sg_ros rfl rfl .nil))))) rfl ?_
        rintro _ _ ⟨_, ⟨rfl, rfl⟩, rfl⟩
        refine MxK.al [2] rfl (by kernel_rfl) ?_
        refine Mx.r 3 rfl ?_
        refine Mx.gq (t := 46) rfl rfl rfl (not_of_true (Si.same_dat (hd45.trans hd49.symm))) rfl (Qt.lva 0 A25 Z25 rfl rfl rfl) rfl ?_
        refine Mx.gl (t := 46) rfl rfl rfl (not_of_true (Si.same_dat (hd45.trans hd49.symm))) rfl (Lo.ca C12 (si_Check 2 4 1000 1 V45 l45 (by have h_ := (Si.us_few hd45 h8).1; omega) (fun s_ hs_ => by have h_ := (Si.us_few hd45 h8).2 s_ hs_; omega)) [] rfl rfl (.of 3 row_rd rfl rfl (.of 4 sg_ros rfl rfl .nil))) rfl ?_
        rintro _ _ ⟨_, ⟨rfl, rfl⟩, rfl⟩
        refine MxK.gp [2] [0] rfl rfl ?_
        refine Mx.gq (t := 46) rfl rfl rfl (not_of_true (Si.same_dat (hd45.trans hd49.symm))) rfl (Pu.qt (Pu.neq rfl rfl)) rfl ?_
        refine Mx.p rfl (Pu.pickF rfl (not_of_true (Si.same_dat (hd45.trans hd49.symm))) rfl) rfl ?_
        refine Mx.nil ?_
        refine J.condF rfl (decide_eq_false (fun h_ => h_ (Si.us_chk hd45 h1 h8))) ?_
        refine J.cc 2 rfl ?_
        refine J.dm [(0, false), (2, false), (1, true), (3, true), (4, false), (5, false), (6, false), (8, false), (7, true), (9, true), (10, false), (11, false), (12, false), (13, false), (15, false), (14, true), (16, true), (17, false), (18, false), (19, false), (20, false), (21, false), (23, false), (24, false), (22, true), (25, true), (26, false), (27, false), (28, false), (29, false), (30, false), (31, true), (32, false), (33, false), (34, true), (35, false), (36, false)] [5, 6] Tryz.mixed (by kernel_rfl) rfl ?_
        refine Mx.q rfl (Qt.lva 1 A25 Z25 rfl rfl rfl) rfl ?_
        refine Mx.q rfl (Qt.lva 1 A25 Z25 rfl rfl rfl) rfl ?_
        refine Mx.l rfl (Lo.ca C12 (si_Check b c r n sv l (by have h_ := (hfw).1; omega) (fun s_ hs_ => by have h_ := (hfw).2 s_ hs_; omega)) [] rfl rfl (.ro 3 rfl (.ro 4 rfl .nil))) rfl ?_
        rintro _ _ ⟨_, ⟨rfl, rfl⟩, rfl⟩
        refine MxK.gp [5, 6] [0, 1] rfl rfl ?_
        refine Mx.l rfl (Lo.ca C13 (r30_Check b c r n sv l (by have h_ := (hfw).1; omega) (fun s_ hs_ => by have h_ := (hfw).2 s_ hs_; omega)) [] rfl rfl (.ro 3 rfl (.ro 4 rfl .nil))) rfl ?_
        rintro _ _ ⟨_, ⟨rfl, rfl⟩, rfl⟩
        refine MxK.al [5, 6] rfl (by kernel_rfl) ?_
        refine Mx.r 2 rfl ?_
        refine Mx.gq (t := 56) rfl rfl rfl (by simp) rfl (Qt.lva 1 A25 Z25 rfl rfl rfl) rfl ?_
        refine Mx.gq (t := 56) rfl rfl rfl (by simp) rfl (Qt.lva 1 A25 Z25 rfl rfl rfl) rfl ?_
        refine Mx.gl (t := 56) rfl rfl rfl (by simp) rfl (Lo.ca C14 (si_Levels b c r n sv l) [] rfl rfl (.ro 3 rfl (.ro 4 rfl .nil))) rfl ?_
        rintro _ _ ⟨_, ⟨rfl, rfl⟩, rfl⟩
        refine MxK.gp [5, 6] [0, 1] rfl rfl ?_
        refine Mx.gl (t := 56) rfl rfl rfl (by simp) rfl (Lo.ca C15 (r30_Levels b c r n sv l) [] rfl rfl (.ro 3 rfl (.ro 4 rfl .nil))) rfl ?_
        rintro _ _ ⟨_, ⟨rfl, rfl⟩, rfl⟩
        refine MxK.gp [5, 6] [0, 1] rfl rfl ?_
        refine Mx.gq (t := 56) rfl rfl rfl (by simp) rfl (Pu.qt (Pu.eql rfl rfl)) rfl ?_
        refine Mx.p rfl (Pu.pickT rfl (by simp) rfl) rfl ?_
        refine Mx.r 1 rfl ?_
        refine Mx.gq (t := 63) rfl rfl rfl (by simp) rfl (Qt.lva 1 A25 Z25 rfl rfl rfl) rfl ?_
        refine Mx.gq (t := 63) rfl rfl rfl (by simp) rfl (Qt.lva 1 A25 Z25 rfl rfl rfl) rfl ?_
        refine Mx.gl (t := 63) rfl rfl rfl (by simp) rfl (Lo.ca C16 (si_Text b c r n sv l hfw.1 hfw.2 hI hI3 hn) [] rfl rfl (.ro 0 rfl (.ro 2 rfl (.ro 1 rfl (.ro 3 rfl (.ro 4 rfl .nil)))))) rfl ?_
        rintro _ _ ⟨_, ⟨rfl, rfl⟩, rfl⟩
        refine MxK.gp [5, 6] [0, 1] rfl rfl ?_
        refine Mx.gl (t := 63) rfl rfl rfl (by simp) rfl (Lo.ca C17 (r30_Text b c r n sv l hfw.1 hfw.2 hI hI3 hn) [] rfl rfl (.ro 3 rfl (.ro 4 rfl .nil))) rfl ?_
        rintro _ _ ⟨_, ⟨rfl, rfl⟩, rfl⟩
        refine MxK.gp [5, 6] [0, 1] rfl rfl ?_
        refine Mx.gq (t := 63) rfl rfl rfl (by simp) rfl (Pu.qt (Pu.sEql rfl rfl)) rfl ?_
        refine Mx.p rfl (Pu.pickT rfl (by simp) rfl) rfl ?_
        refine Mx.r 1 rfl ?_
        refine Mx.gq (t := 70) rfl rfl rfl (by simp) rfl (Qt.lva 1 A25 Z25 rfl rfl rfl) rfl ?_
        refine Mx.gq (t := 70) rfl rfl rfl (by simp) rfl (Qt.lva 0 A25 Z25 rfl rfl rfl) rfl ?_
        refine Mx.gq (t := 70) rfl rfl rfl (by simp) rfl (Qt.lva 1 A25 Z25 rfl rfl rfl) rfl ?_
        refine Mx.gq (t := 70) rfl rfl rfl (by simp) rfl (Qt.lva 0 A25 Z25 rfl rfl rfl) rfl ?_
        refine Mx.gl (t := 70) rfl rfl rfl (by simp) rfl (Lo.ca C18 (si_Same b c r n sv l b2 c2 r2 n2 sv2 l2 (by have h_ := (hfw).1; omega) (fun s_ hs_ => by have h_ := (hfw).2 s_ hs_; omega) (by have h_ := (hfw2).1; omega) (fun s_ hs_ => by have h_ := (hfw2).2 s_ hs_; omega)) [] rfl rfl (.ro 3 rfl (.ro 4 rfl (.ro 5 rfl (.ro 6 rfl .nil))))) rfl ?_
        rintro _ _ ⟨_, ⟨rfl, rfl⟩, rfl⟩
        refine MxK.gp [5, 6] [0, 1] rfl rfl ?_
        refine Mx.gl (t := 70) rfl rfl rfl (by simp) rfl (Lo.ca C10 (r30_Same b c r n sv l b2 c2 r2 n2 sv2 l2 (by have h_ := (hfw).1; omega) (fun s_ hs_ => by have h_ := (hfw).2 s_ hs_; omega) (by have h_ := (hfw2).1; omega) (fun s_ hs_ => by have h_ := (hfw2).2 s_ hs_; omega)) [] rfl rfl (.ro 3 rfl (.ro 4 rfl (.ro 5 rfl (.ro 6 rfl .nil))))) rfl ?_
        rintro _ _ ⟨_, ⟨rfl, rfl⟩, rfl⟩
        refine MxK.gp [5, 6] [0, 1] rfl rfl ?_
        refine Mx.gq (t := 70) rfl rfl rfl (by simp) rfl (Pu.qt (Pu.beql N4 rfl rfl)) rfl ?_
        refine Mx.p rfl (Pu.pickT rfl (by simp) rfl) rfl ?_
        refine Mx.r 1 rfl ?_
        refine Mx.gq (t := 79) rfl rfl rfl (by simp) rfl (Qt.lva 1 A25 Z25 rfl rfl rfl) rfl ?_
        refine Mx.gq (t := 79) rfl rfl rfl (by simp) rfl (Qt.lva 1 A25 Z25 rfl rfl rfl) rfl ?_
        refine Mx.gl (t := 79) rfl rfl rfl (by simp) rfl (Lo.ca C18 (si_Same b c r n sv l b c r n sv l (by have h_ := (hfw).1; omega) (fun s_ hs_ => by have h_ := (hfw).2 s_ hs_; omega) (by have h_ := (hfw).1; omega) (fun s_ hs_ => by have h_ := (hfw).2 s_ hs_; omega)) [] rfl rfl (.ro 3 rfl (.ro 4 rfl (.ro 3 rfl (.ro 4 rfl .nil))))) rfl ?_
        rintro _ _ ⟨_, ⟨rfl, rfl⟩, rfl⟩
        refine MxK.gp [5, 6] [0, 1] rfl rfl ?_
        refine Mx.p rfl (Pu.pickT rfl (by simp) rfl) rfl ?_
        refine Mx.r 1 rfl ?_
        refine Mx.gl (t := 84) rfl rfl rfl Si.same_self rfl (Lo.ca C8 law30_awake [] rfl rfl (.ro 0 rfl (.ro 1 rfl (.ro 2 rfl .nil)))) rfl ?_
        rintro _ _ ⟨_, ⟨rfl, rfl⟩, rfl⟩
        refine MxK.gp [5, 6] [0, 1] rfl rfl ?_
        refine Mx.p rfl (Pu.pickT rfl Si.same_self rfl) rfl ?_
        refine Mx.r 1 rfl ?_
        refine Mx.nil ?_
        exact J.r0 rfl rfl ⟨rfl, rfl⟩

end Go.Proofs.YtnhfgnnpbipcnaaGreatDoor
