/-
  Several texts in one: CX1, CX2.
-/
import Derived.KernelRfl
import Derived.Test.YtnhfgnnpbipcnaaGreatDoorKX2
import Derived.Test.YtnhfgnnpbipcnaaGreatDoorConfA
import Derived.Test.YtnhfgnnpbipcnaaGreatDoorLkD
namespace Go.Proofs.YtnhfgnnpbipcnaaGreatDoor
open Go Go.LK
set_option linter.unusedSimpArgs false

set_option maxRecDepth 100000 in
theorem cf_heads  : Tri Tryz.prog 70 #[] [var 1 (Kn.names.map vS) 144] [] (fun v L' => L' = [row v 9 1 (Cf.heads.map encS)]) := by
  refine Tri.en F70 rfl K70 rfl fun w0 => ?_
  refine J.co 6 rfl ?_
  refine O.l (Lo.bm encS [[119, 111, 114, 107, 101, 114, 115], [113, 117, 101, 117, 101], [119, 105, 110, 100, 111, 119], [116, 105, 101, 114, 115], [115, 101, 101, 110], [116, 116, 108]] U72 Z9 Y9 rfl rfl rfl (by kernel_rfl) rfl rfl) rfl ?_
  rintro V1 _ rfl
  refine O.l (Lo.ca C104 kn_Names [] rfl rfl (.ro 0 rfl .nil)) rfl ?_
  rintro v2 _ ⟨_, rfl, rfl⟩
  refine O.l (Lo.am 1 N72 info9 rfl rfl rfl rfl rfl (Src.row 0 rfl) encS.one (by decide) (by decide)) rfl ?_
  rintro V3 _ rfl
  refine O.oc 2 rfl ?_
  exact J.r1 [1] rfl rfl rfl rfl

set_option maxRecDepth 100000 in
theorem r28_heads  : Tri Tryz.prog 77 #[] [] [] (fun v L' => L' = [row v 9 1 (Cf.heads.map encS)]) := by
  refine Tri.en F77 rfl K77 rfl fun w0 => ?_
  refine J.co 6 rfl ?_
  refine O.l (Lo.bm encS [[119, 111, 114, 107, 101, 114, 115], [113, 117, 101, 117, 101], [119, 105, 110, 100, 111, 119], [116, 105, 101, 114, 115], [115, 101, 101, 110], [116, 116, 108]] U72 Z9 Y9 rfl rfl rfl (by kernel_rfl) rfl rfl) rfl ?_
  rintro V1 _ rfl
  refine O.oo 5 rfl ?_
  refine O.l (Lo.ca C108 r18_Names [] rfl rfl .nil) rfl ?_
  rintro v2 _ ⟨_, rfl, rfl⟩
  refine O.l (Lo.am 1 N72 info9 rfl rfl rfl rfl rfl (Src.row 0 rfl) encS.one (by decide) (by decide)) rfl ?_
  rintro V3 _ rfl
  refine O.oc 2 rfl ?_
  exact J.r1 [1] rfl rfl rfl rfl

set_option maxRecDepth 100000 in
theorem cf_tails  : Tri Tryz.prog 72 #[] [] [] (fun v L' => L' = [row v 9 1 (Cf.tails.map encS)]) := by
  refine Tri.en F72 rfl K72 rfl fun w0 => ?_
  refine J.co 6 rfl ?_
  refine O.l (Lo.bm encS [[116, 111], [116, 105, 101, 114], [119, 101, 105, 103, 104, 116], [109, 111, 115, 116]] U72 Z9 Y9 rfl rfl rfl (by kernel_rfl) rfl rfl) rfl ?_
  rintro V1 _ rfl
  refine O.oc 2 rfl ?_
  exact J.r1 [0] rfl rfl rfl rfl

set_option maxRecDepth 100000 in
theorem r28_tails  : Tri Tryz.prog 78 #[] [] [] (fun v L' => L' = [row v 9 1 (Cf.tails.map encS)]) := by
  refine Tri.en F78 rfl K78 rfl fun w0 => ?_
  refine J.co 6 rfl ?_
  refine O.l (Lo.bm encS [[116, 111], [116, 105, 101, 114], [119, 101, 105, 103, 104, 116], [109, 111, 115, 116]] U72 Z9 Y9 rfl rfl rfl (by kernel_rfl) rfl rfl) rfl ?_
  rintro V1 _ rfl
  refine O.oc 2 rfl ?_
  exact J.r1 [0] rfl rfl rfl rfl

set_option maxRecDepth 100000 in
theorem cf_numbers (x0 x1 x2 x3 x4 x5 x6 x7 x8 x9 x10 x11 x12 : Int) (cv : Value) (cs : List Cl) : Tri Tryz.prog 71 #[.agg #[.int .i64 x0, .int .i64 x1, .int .i64 x2, .int .i64 x3, .int .i64 x4, .int .i64 x5, .int .i64 x6, .int .i64 x7, .int .i64 x8, .int .i64 x9, .int .i64 x10, .int .i64 x11, .int .i64 x12, cv]] [rd cv 4 (cs.map Cl.cells)] [] (fun v L' => L' = [row v 3 1 ([x0, x1, x2, x3, x4, x5, x6, x7, x8, x9, x10, x11, x12].map encZ)]) := by
  refine Tri.en F71 rfl K71 rfl fun w0 => ?_
  refine J.co 2 rfl ?_
  refine O.one (Src.ro 0 rfl) (fun hV2 => ?_)
  refine O.l (Lo.bx rfl rfl) rfl ?_
  rintro _ _ ⟨g1, rfl, rfl⟩
  refine O.oc 3 rfl ?_
  refine J.drawA Tryz.mixed ?_
  refine A.edge 12 15 rfl ?_ ?_
  ·
    refine A.mx [(0, false), (1, false), (2, false), (3, false), (4, false), (5, false), (6, false), (7, false), (8, false), (9, false), (10, false), (11, false), (13, false), (14, false), (15, true), (12, true), (16, true), (17, false)] [0] (by kernel_rfl) rfl ?_
    refine Mx.r 1 rfl ?_
    refine Mx.q rfl (Qt.lv 0 A3 rfl rfl rfl) rfl ?_
    refine Mx.r 1 rfl ?_
    refine Mx.q rfl (Qt.lv 0 A3 rfl rfl rfl) rfl ?_
    refine Mx.r 1 rfl ?_
    refine Mx.q rfl (Qt.lv 0 A3 rfl rfl rfl) rfl ?_
    refine Mx.r 1 rfl ?_
    refine Mx.q rfl (Qt.lv 0 A3 rfl rfl rfl) rfl ?_
    refine Mx.r 1 rfl ?_
    refine Mx.q rfl (Qt.lv 0 A3 rfl rfl rfl) rfl ?_
    refine Mx.r 1 rfl ?_
    refine Mx.q rfl (Qt.lv 0 A3 rfl rfl rfl) rfl ?_
    refine Mx.r 1 rfl ?_
    refine Mx.q rfl (Qt.lva 0 A44 Z44 rfl rfl rfl) rfl ?_
    refine Mx.l rfl (Lo.ca C105 (kn_Values x6 x7 x8 x9 x10 x11 x12) [] rfl rfl .nil) rfl ?_
    rintro v3 _ ⟨_, rfl, rfl⟩
    refine MxK.gp [1] [0] rfl rfl ?_
    refine Mx.l rfl (Lo.bm encZ [x0, x1, x2, x3, x4, x5] U53 Z3 Y3 rfl rfl rfl (by kernel_rfl) rfl rfl) rfl ?_
    rintro V4 _ rfl
    refine MxK.al [2] rfl (by kernel_rfl) ?_
    refine Mx.l rfl (Lo.am 0 N53 info3 rfl rfl rfl rfl rfl (Src.row 1 rfl) encZ.one (by first | decide | (simp only [List.length_cons, List.length_nil]; omega)) (by first | decide | (simp only [List.length_cons, List.length_nil]; omega))) rfl ?_
    rintro V5 _ rfl
    refine MxK.al [2] rfl (by kernel_rfl) ?_
    refine Mx.r 1 rfl ?_
    refine Mx.nil ?_
    exact J.r1 [0] rfl rfl rfl rfl
  ·
    refine A.mx [(0, false), (1, false), (2, false), (3, false), (4, false), (5, false), (6, false), (7, false), (8, false), (9, false), (10, false), (11, false), (13, false), (14, false), (12, true), (15, true), (16, true), (17, false)] [0] (by kernel_rfl) rfl ?_
    refine Mx.r 1 rfl ?_
    refine Mx.q rfl (Qt.lv 0 A3 rfl rfl rfl) rfl ?_
    refine Mx.r 1 rfl ?_
    refine Mx.q rfl (Qt.lv 0 A3 rfl rfl rfl) rfl ?_
    refine Mx.r 1 rfl ?_
    refine Mx.q rfl (Qt.lv 0 A3 rfl rfl rfl) rfl ?_
    refine Mx.r 1 rfl ?_
    refine Mx.q rfl (Qt.lv 0 A3 rfl rfl rfl) rfl ?_
    refine Mx.r 1 rfl ?_
    refine Mx.q rfl (Qt.lv 0 A3 rfl rfl rfl) rfl ?_
    refine Mx.r 1 rfl ?_
    refine Mx.q rfl (Qt.lv 0 A3 rfl rfl rfl) rfl ?_
    refine Mx.r 1 rfl ?_
    refine Mx.q rfl (Qt.lva 0 A44 Z44 rfl rfl rfl) rfl ?_
    refine Mx.l rfl (Lo.bm encZ [x0, x1, x2, x3, x4, x5] U53 Z3 Y3 rfl rfl rfl (by kernel_rfl) rfl rfl) rfl ?_
    rintro V6 _ rfl
    refine MxK.gp [1] [0] rfl rfl ?_
    refine Mx.l rfl (Lo.ca C105 (kn_Values x6 x7 x8 x9 x10 x11 x12) [] rfl rfl .nil) rfl ?_
    rintro v7 _ ⟨_, rfl, rfl⟩
    refine MxK.al [2] rfl (by kernel_rfl) ?_
    refine Mx.l rfl (Lo.am 1 N53 info3 rfl rfl rfl rfl rfl (Src.row 0 rfl) encZ.one (by first | decide | (simp only [List.length_cons, List.length_nil]; omega)) (by first | decide | (simp only [List.length_cons, List.length_nil]; omega))) rfl ?_
    rintro V8 _ rfl
    refine MxK.al [2] rfl (by kernel_rfl) ?_
    refine Mx.r 1 rfl ?_
    refine Mx.nil ?_
    exact J.r1 [1] rfl rfl rfl rfl

set_option maxRecDepth 100000 in
theorem r28_numbers (x0 x1 x2 x3 x4 x5 x6 x7 x8 x9 x10 x11 x12 : Int) (cv : Value) (cs : List Cl) : Tri Tryz.prog 55 #[.agg #[.int .i64 x0, .int .i64 x1, .int .i64 x2, .int .i64 x3, .int .i64 x4, .int .i64 x5, .int .i64 x6, .int .i64 x7, .int .i64 x8, .int .i64 x9, .int .i64 x10, .int .i64 x11, .int .i64 x12, cv]] [rd cv 4 (cs.map Cl.cells)] [] (fun v L' => L' = [row v 3 1 ([x0, x1, x2, x3, x4, x5, x6, x7, x8, x9, x10, x11, x12].map encZ)]) := by
  refine Tri.en F55 rfl K55 rfl fun w0 => ?_
  refine J.co 2 rfl ?_
  refine O.one (Src.ro 0 rfl) (fun hV2 => ?_)
  refine O.l (Lo.bx rfl rfl) rfl ?_
  rintro _ _ ⟨g1, rfl, rfl⟩
  refine O.oo 5 rfl ?_
  refine O.q (Qt.lv 0 A3 rfl rfl rfl) rfl ?_
  refine O.oo 1 rfl ?_
  refine O.q (Qt.lv 0 A3 rfl rfl rfl) rfl ?_
  refine O.oo 1 rfl ?_
  refine O.q (Qt.lv 0 A3 rfl rfl rfl) rfl ?_
  refine O.oo 1 rfl ?_
  refine O.q (Qt.lv 0 A3 rfl rfl rfl) rfl ?_
  refine O.oo 1 rfl ?_
  refine O.q (Qt.lv 0 A3 rfl rfl rfl) rfl ?_
  refine O.oo 1 rfl ?_
  refine O.q (Qt.lv 0 A3 rfl rfl rfl) rfl ?_
  refine O.l (Lo.bm encZ [x0, x1, x2, x3, x4, x5] U53 Z3 Y3 rfl rfl rfl (by kernel_rfl) rfl rfl) rfl ?_
  rintro V3 _ rfl
  refine O.oo 6 rfl ?_
  refine O.q (Qt.lva 1 A44 Z44 rfl rfl rfl) rfl ?_
  refine O.l (Lo.ca C92 (r18_Values x6 x7 x8 x9 x10 x11 x12) [] rfl rfl .nil) rfl ?_
  rintro v4 _ ⟨_, rfl, rfl⟩
  refine O.l (Lo.am 1 N53 info3 rfl rfl rfl rfl rfl (Src.row 0 rfl) encZ.one (by first | decide | (simp only [List.length_cons, List.length_nil]; omega)) (by first | decide | (simp only [List.length_cons, List.length_nil]; omega))) rfl ?_
  rintro V5 _ rfl
  refine O.oc 2 rfl ?_
  exact J.r1 [1] rfl rfl rfl rfl

set_option maxRecDepth 100000 in
theorem sl_HasPrefix (s p : List UInt8) : Tri Tryz.prog 127 #[str s, str p] [] [] (fun v L' => v = .bool (Cf.hasP p s) ∧ L' = []) := by
  refine Tri.en F127 rfl K127 rfl fun w0 => ?_
  refine J.co 7 rfl ?_
  refine O.p (Pu.sLen U9 rfl) rfl ?_
  refine O.oo 1 rfl ?_
  refine O.p (Pu.sLen U9 rfl) rfl ?_
  refine O.oo 2 rfl ?_
  refine O.sd 10 rfl (fun p1 => ?_) (fun p1 => ?_)
  ·
    refine O.oo 2 rfl ?_
    refine O.gq (t := 10) rfl rfl rfl rfl (Pu.qt (Pu.sLen U9 rfl)) rfl ?_
    refine O.gq (t := 10) rfl rfl rfl rfl (Pu.qt (Pu.sHead U9 rfl rfl (by omega) (by omega))) rfl ?_
    refine O.oo 1 rfl ?_
    refine O.gq (t := 10) rfl rfl rfl rfl (Pu.qt (Pu.sEql rfl rfl)) rfl ?_
    refine O.oc 3 rfl ?_
    exact J.r0 rfl rfl ⟨(by first | (rw [Cf.hasP_of (by omega), ← Int.toNat_natCast p.length]; rfl) | (rw [Cf.hasP_short (by omega)]; rfl)), rfl⟩
  ·
    refine O.oc 9 rfl ?_
    exact J.r0 rfl rfl ⟨(by first | (rw [Cf.hasP_of (by omega), ← Int.toNat_natCast p.length]; rfl) | (rw [Cf.hasP_short (by omega)]; rfl)), rfl⟩

set_option maxRecDepth 100000 in
theorem sl_CutPrefix (s p : List UInt8) : Tri Tryz.prog 122 #[str s, str p] [] [] (fun v L' => v = .tuple #[str (Cf.cutPre s p).1, .bool (Cf.cutPre s p).2] ∧ L' = []) := by
  refine Tri.en F122 rfl K122 rfl fun w0 => ?_
  refine J.co 10 rfl ?_
  refine O.l (Lo.ca C127 (sl_HasPrefix s p) [] rfl rfl .nil) rfl ?_
  rintro _ _ ⟨_, ⟨rfl, rfl⟩, rfl⟩
  refine O.oc 2 rfl ?_
  refine J.cond rfl (fun h2 => ?_) (fun h2 => ?_)
  ·
    have h3 : (Cf.hasP p s) = false := not_flip h2
    refine J.cc 6 rfl ?_
    exact J.rn [_, _] [] rfl ⟨rfl, rfl, trivial⟩ rfl ⟨(by first | (rw [Cf.cutPre_no (by assumption)]; rfl) | (rw [Cf.cutPre_yes (by assumption)]; rfl)), rfl⟩
  ·
    have h4 : (Cf.hasP p s) = true := not_flip h2
    refine J.co 5 rfl ?_
    refine O.p (Pu.sLen U9 rfl) rfl ?_
    refine O.p (Pu.sTail U9 rfl rfl (by omega) (by first | omega | (have h_ := Cf.hasP_len (by assumption); omega))) rfl ?_
    refine O.oc 3 rfl ?_
    exact J.rn [_, _] [] rfl ⟨rfl, rfl, trivial⟩ rfl ⟨(by first | (rw [Cf.cutPre_no (by assumption)]; rfl) | (rw [Cf.cutPre_yes (by assumption)]; rfl)), rfl⟩

set_option maxRecDepth 100000 in
theorem s_CutPrefix (s p : List UInt8) : Tri Tryz.prog 109 #[str s, str p] [] [] (fun v L' => v = .tuple #[str (Cf.cutPre s p).1, .bool (Cf.cutPre s p).2] ∧ L' = []) := by
  refine Tri.en F109 rfl K109 rfl fun w0 => ?_
  refine J.co 9 rfl ?_
  refine O.l (Lo.ca C122 (sl_CutPrefix s p) [] rfl rfl .nil) rfl ?_
  rintro _ _ ⟨_, ⟨rfl, rfl⟩, rfl⟩
  refine O.oc 5 rfl ?_
  exact J.rn [_, _] [] rfl ⟨rfl, rfl, trivial⟩ rfl ⟨rfl, rfl⟩

set_option maxRecDepth 100000 in
theorem cf_Row (word : Wd.Bs) (nv : Value) (ns : List Wd.Bs) (lv : Value) (l : List Int) (hw : word.length ≤ 60000) (hns : ∀ x ∈ ns, x.length ≤ 60000) (hn : ns.length ≤ 900) (hl : l.length ≤ 900) (hI : Kn.I64s l) : Tri Tryz.prog 36 #[str word, nv, lv] [libW, rd nv 1 (ns.map encS), rd lv 1 (l.map encZ)] [] (fun v L' => v = str (Cf.row word ns l) ∧ L' = []) := by
  refine Tri.en F36 rfl K36 rfl fun w0 => ?_
  refine J.co 7 rfl ?_
  refine O.l (Lo.bm encS [word] U72 Z9 Y9 rfl rfl rfl (by kernel_rfl) rfl rfl) rfl ?_
  rintro V1 _ rfl
  refine O.oo 6 rfl ?_
  refine O.q (Qt.lenM U72 rfl (Src.ro 1 rfl)) rfl ?_
  refine O.oo 1 rfl ?_
  refine O.q (Qt.lenM U53 rfl (Src.ro 2 rfl)) rfl ?_
  refine O.p (Pu.to (Pu.min rfl rfl) (congrArg (Value.int .i64) (show (if (l.length : Int) < (ns.length : Int) then (l.length : Int) else (ns.length : Int)) = ((min ns.length l.length : Nat) : Int) from (by split <;> omega)))) rfl ?_
  refine O.oc 3 rfl ?_
  refine J.lo (X := Nat × Value × List Wd.Bs) (fun (k, V, out) => k ≤ min ns.length l.length ∧ out = (Cf.rowW word ns l).take (k + 1)) (fun (k, V, out) => [(7, V), (16, .int .i64 (k : Int))]) (fun (k, V, out) => [row V 9 1 (out.map encS)]) (fun (k, V, out) => min ns.length l.length - k) ⟨0, V1, [word]⟩ [1, 2, 6, 15] [0] [] ⟨by omega, rfl⟩ ⟨rfl, (eqi (by omega)), trivial⟩ rfl rfl ?_
  rintro ⟨k, V, out⟩ ⟨hk, hout⟩
  refine J.cc 5 rfl ?_
  refine J.cd rfl (fun p2 => ?_) (fun p2 => ?_)
  ·
    refine J.cc 8 rfl ?_
    refine J.dm [(0, false), (1, false), (2, false), (3, false), (4, false), (5, false), (6, false), (7, false), (8, false), (9, false), (10, false), (11, false), (12, true), (13, true), (14, false)] [] Tryz.mixed (by kernel_rfl) rfl ?_
    refine Mx.r 3 rfl ?_
    obtain ⟨e3, he3⟩ := ex_at (l := ns) (i := k) (by omega)
    refine Mx.q rfl (Qt.idxM U72 Z9 rfl (Src.ro 1 rfl) rfl (by omega) (by omega)) rfl ?_
    refine Mx.q rfl (Qt.le A9 (Src.ro 1 rfl) he3 0 rfl (by omega) rfl) rfl ?_
    refine Mx.p rfl (Pu.sAdd rfl rfl (by have h1_ := hns _ (List.mem_of_getElem? (by assumption)); first | (simp only [List.length_append, List.length_cons, List.length_nil]; omega) | (have h2_ := Wd.itoa_le2 (hI _ (List.mem_of_getElem? (by assumption))); simp only [List.length_append, List.length_cons, List.length_nil]; omega))) rfl ?_
    refine Mx.r 2 rfl ?_
    obtain ⟨e4, he4⟩ := ex_at (l := l) (i := k) (by omega)
    refine Mx.q rfl (Qt.idxM U53 Z3 rfl (Src.ro 2 rfl) rfl (by omega) (by omega)) rfl ?_
    refine Mx.q rfl (Qt.le A3 (Src.ro 2 rfl) he4 0 rfl (by omega) rfl) rfl ?_
    refine Mx.call (vs := [.int .i64 e4]) (caps := []) rfl (by exact C69) rfl rfl (dec_Text e4 (by first | omega | (have hx_ := hI _ (List.mem_of_getElem? (by assumption)); unfold Dc.I64 at hx_; omega) | (have ho_ := congrArg List.length hout; rw [List.length_take] at ho_; simp only [List.length_append, List.length_cons, List.length_nil]; omega)) (by first | omega | (have hx_ := hI _ (List.mem_of_getElem? (by assumption)); unfold Dc.I64 at hx_; omega) | (have ho_ := congrArg List.length hout; rw [List.length_take] at ho_; simp only [List.length_append, List.length_cons, List.length_nil]; omega))) (fun _ _ h => h) (RoOk.ro 0 rfl [] rfl RoOk.nil) rfl ?_
    refine Mx.p rfl (Pu.sAdd rfl rfl (by have h1_ := hns _ (List.mem_of_getElem? (by assumption)); first | (simp only [List.length_append, List.length_cons, List.length_nil]; omega) | (have h2_ := Wd.itoa_le2 (hI _ (List.mem_of_getElem? (by assumption))); simp only [List.length_append, List.length_cons, List.length_nil]; omega))) rfl ?_
    refine Mx.l rfl (Lo.bm encS [(e3 ++ ([61])) ++ (Lib.itoa e4)] U72 Z9 Y9 rfl rfl rfl (by kernel_rfl) rfl rfl) rfl ?_
    rintro V5 _ rfl
    refine MxK.gp [] [] rfl rfl ?_
    refine Mx.l rfl (Lo.am 1 N72 info9 rfl rfl rfl rfl rfl (Src.row 0 rfl) encS.one (by first | omega | (have hx_ := hI _ (List.mem_of_getElem? (by assumption)); unfold Dc.I64 at hx_; omega) | (have ho_ := congrArg List.length hout; rw [List.length_take] at ho_; simp only [List.length_append, List.length_cons, List.length_nil]; omega)) (by first | omega | (have hx_ := hI _ (List.mem_of_getElem? (by assumption)); unfold Dc.I64 at hx_; omega) | (have ho_ := congrArg List.length hout; rw [List.length_take] at ho_; simp only [List.length_append, List.length_cons, List.length_nil]; omega))) rfl ?_
    rintro V6 _ rfl
    refine MxK.gp [] [] rfl rfl ?_
    refine Mx.r 1 rfl ?_
    refine Mx.nil ?_
    refine J.co 2 rfl ?_
    refine O.p (Pu.add' rfl rfl (by omega)) rfl ?_
    refine O.oc 2 rfl ?_
    exact J.lq ⟨k + 1, V6, out ++ ([(e3 ++ ([61])) ++ (Lib.itoa e4)])⟩ [1, 2, 6, 15] [1] [] ⟨by omega, (by rw [hout]; exact (Cf.rowW_next he3 he4).symm)⟩ (by dsimp only; omega) ⟨rfl, (eqi (by omega)), trivial⟩ rfl rfl
  ·
    refine J.co 4 rfl ?_
    refine O.l (Lo.ca C35 (w_Join V out (by rw [hout]; simp [Cf.rowW]) (by rw [hout, List.length_take, Cf.rowW_len]; omega) (by intro x_ hx_; rw [hout] at hx_; have h_ := Cf.rowW_le hw hns hI x_ (List.mem_of_mem_take hx_); omega)) [] rfl rfl (.of 0 row_rd rfl rfl .nil)) rfl ?_
    rintro _ _ ⟨_, ⟨rfl, rfl⟩, rfl⟩
    refine O.oc 2 rfl ?_
    exact J.r0 rfl rfl ⟨(by rw [hout, Cf.rowW_all (by omega)]; rfl), rfl⟩

set_option maxRecDepth 100000 in
theorem r28_Row (word : Wd.Bs) (nv : Value) (ns : List Wd.Bs) (lv : Value) (l : List Int) (hw : word.length ≤ 60000) (hns : ∀ x ∈ ns, x.length ≤ 60000) (hn : ns.length ≤ 900) (hl : l.length ≤ 900) (hI : Kn.I64s l) : Tri Tryz.prog 41 #[str word, nv, lv] [rd nv 1 (ns.map encS), rd lv 1 (l.map encZ)] [] (fun v L' => v = str (Cf.row word ns l) ∧ L' = []) := by
  refine Tri.en F41 rfl K41 rfl fun w0 => ?_
  refine J.cc 15 rfl ?_
  refine J.lo (X := Nat × Wd.Bs) (fun (k, t) => k ≤ min ns.length l.length ∧ t = Cf.rowK word ns l k) (fun (k, t) => [(7, str t), (8, .int .i64 (k : Int))]) (fun (k, t) => []) (fun (k, t) => min ns.length l.length - k) ⟨0, word⟩ [1, 2, 6] [] [] ⟨by omega, Cf.rowK_zero.symm⟩ ⟨rfl, (eqi (by omega)), trivial⟩ rfl rfl ?_
  rintro ⟨k, t⟩ ⟨hk, ht⟩
  refine J.co 5 rfl ?_
  refine O.q (Qt.lenM U72 rfl (Src.ro 0 rfl)) rfl ?_
  refine O.oo 2 rfl ?_
  refine O.sd 14 rfl (fun p1 => ?_) (fun p1 => ?_)
  ·
    refine O.oo 2 rfl ?_
    refine O.gq (t := 14) rfl rfl rfl rfl (Qt.lenM U53 rfl (Src.ro 1 rfl)) rfl ?_
    refine O.oc 3 rfl ?_
    refine J.cd rfl (fun p2 => ?_) (fun p2 => ?_)
    ·
      refine J.cc 3 rfl ?_
      refine J.drawHead 14 Tryz.mixed (by kernel_rfl) ?_
      refine Hd.p (Pu.move rfl) rfl ?_
      refine Hd.p (Pu.sAdd rfl rfl (by have h_ := Cf.rowK_len hw hns hI k; rw [← ht] at h_; first | (simp only [List.length_append, List.length_cons, List.length_nil]; omega) | (have h1_ := hns _ (List.mem_of_getElem? (by assumption)); first | (simp only [List.length_append, List.length_cons, List.length_nil]; omega) | (have h2_ := Wd.itoa_le2 (hI _ (List.mem_of_getElem? (by assumption))); simp only [List.length_append, List.length_cons, List.length_nil]; omega)))) rfl ?_
      refine Hd.p (Pu.move rfl) rfl ?_
      refine Hd.p (Pu.move rfl) rfl ?_
      obtain ⟨e3, he3⟩ := ex_at (l := ns) (i := k) (by omega)
      refine Hd.q (Qt.idxM U72 Z9 rfl (Src.ro 0 rfl) rfl (by omega) (by omega)) rfl ?_
      refine Hd.q (Qt.le A9 (Src.ro 0 rfl) he3 0 rfl (by omega) rfl) rfl ?_
      refine Hd.p (Pu.sAdd rfl rfl (by have h_ := Cf.rowK_len hw hns hI k; rw [← ht] at h_; first | (simp only [List.length_append, List.length_cons, List.length_nil]; omega) | (have h1_ := hns _ (List.mem_of_getElem? (by assumption)); first | (simp only [List.length_append, List.length_cons, List.length_nil]; omega) | (have h2_ := Wd.itoa_le2 (hI _ (List.mem_of_getElem? (by assumption))); simp only [List.length_append, List.length_cons, List.length_nil]; omega)))) rfl ?_
      refine Hd.p (Pu.sAdd rfl rfl (by have h_ := Cf.rowK_len hw hns hI k; rw [← ht] at h_; first | (simp only [List.length_append, List.length_cons, List.length_nil]; omega) | (have h1_ := hns _ (List.mem_of_getElem? (by assumption)); first | (simp only [List.length_append, List.length_cons, List.length_nil]; omega) | (have h2_ := Wd.itoa_le2 (hI _ (List.mem_of_getElem? (by assumption))); simp only [List.length_append, List.length_cons, List.length_nil]; omega)))) rfl ?_
      refine Hd.p (Pu.move rfl) rfl ?_
      refine Hd.p (Pu.move rfl) rfl ?_
      obtain ⟨e4, he4⟩ := ex_at (l := l) (i := k) (by omega)
      refine Hd.q (Qt.idxM U53 Z3 rfl (Src.ro 1 rfl) rfl (by omega) (by omega)) rfl ?_
      refine Hd.q (Qt.le A3 (Src.ro 1 rfl) he4 0 rfl (by omega) rfl) rfl ?_
      refine Hd.call (vs := [.int .i64 e4]) (caps := []) (by exact C76) rfl rfl (r05_Text e4 (by exact hI _ (List.mem_of_getElem? (by assumption)))) (fun _ _ h => h) RoOk.nil rfl ?_
      refine Hd.p (Pu.sAdd rfl rfl (by have h_ := Cf.rowK_len hw hns hI k; rw [← ht] at h_; first | (simp only [List.length_append, List.length_cons, List.length_nil]; omega) | (have h1_ := hns _ (List.mem_of_getElem? (by assumption)); first | (simp only [List.length_append, List.length_cons, List.length_nil]; omega) | (have h2_ := Wd.itoa_le2 (hI _ (List.mem_of_getElem? (by assumption))); simp only [List.length_append, List.length_cons, List.length_nil]; omega)))) rfl ?_
      refine Hd.nil ?_
      refine O.oo 5 rfl ?_
      refine O.p (Pu.add' rfl rfl (by omega)) rfl ?_
      refine O.oc 2 rfl ?_
      exact J.lq ⟨k + 1, (((t ++ ([32])) ++ e3) ++ ([61])) ++ (Lib.itoa e4)⟩ [1, 2, 6] [] [] ⟨by omega, (by rw [ht]; exact (Cf.rowK_next he3 he4).symm)⟩ (by dsimp only; omega) ⟨rfl, (eqi (by omega)), trivial⟩ rfl rfl
    ·
      refine J.cc 6 rfl ?_
      exact J.r0 rfl rfl ⟨(by rw [ht, Cf.rowK_all (by omega)]; rfl), rfl⟩
  ·
    refine O.oc 13 rfl ?_
    exact J.r0 rfl rfl ⟨(by rw [ht, Cf.rowK_all (by omega)]; rfl), rfl⟩

end Go.Proofs.YtnhfgnnpbipcnaaGreatDoor

namespace Go.Proofs.YtnhfgnnpbipcnaaGreatDoor
open Go Go.LK
set_option linter.unusedSimpArgs false

set_option maxRecDepth 100000 in
set_option maxHeartbeats 1000000 in
theorem cf_Numbers (line word : Wd.Bs) (nv : Value) (ns : List Wd.Bs) (hs : line.length ≤ 100000) (hn : ns.length ≤ 900) (hns : ∀ x ∈ ns, x.length ≤ 60000) : Tri Tryz.prog 81 #[str line, str word, nv] [libW, rd nv 1 (ns.map encS)] [] (fun v L' => ∃ V', v = .tuple #[V', .bool (Cf.numbers line word ns).2] ∧ L' = [row V' 3 1 ((Cf.numbers line word ns).1.map encZ)]) := by
  refine Tri.en F81 rfl K81 rfl fun w0 => ?_
  refine J.co 8 rfl ?_
  refine O.l (Lo.ca C49 (w_Words line (by omega)) [] rfl rfl .nil) rfl ?_
  rintro v1 _ ⟨_, rfl, rfl⟩
  refine O.oo 6 rfl ?_
  refine O.q (Qt.lenM U72 rfl (Src.row 0 rfl)) rfl ?_
  refine O.oo 1 rfl ?_
  refine O.q (Qt.lenM U72 rfl (Src.ro 1 rfl)) rfl ?_
  refine O.p (Pu.add' rfl rfl (by omega)) rfl ?_
  refine O.oo 2 rfl ?_
  refine O.sd 24 rfl (fun p2 => ?_) (fun p2 => ?_)
  ·
    refine O.oc 13 rfl ?_
    refine J.nilRow 3 1 ?_
    exact J.rn [_, _] [0] rfl ⟨rfl, rfl, trivial⟩ rfl ⟨Value.slice none 0 0, (by first | (rw [Cf.numbers_few (by omega)]; done) | (rw [Cf.numbers_few (by omega)]; rfl)), (by first | (rw [Cf.numbers_few (by omega)]; done) | (rw [Cf.numbers_few (by omega)]; rfl))⟩
  ·
    refine O.oo 1 rfl ?_
    obtain ⟨e3, he3⟩ := ex_at (l := Wd.wordsL line) (i := 0) (by omega)
    refine O.gq (t := 24) rfl rfl rfl rfl (Qt.idxM U72 Z9 rfl (Src.row 0 rfl) rfl (by omega) (by omega)) rfl ?_
    refine O.gq (t := 24) rfl rfl rfl rfl (Qt.le A9 (Src.row 0 rfl) he3 0 rfl (by omega) rfl) rfl ?_
    refine O.oo 1 rfl ?_
    refine O.gq (t := 24) rfl rfl rfl rfl (Pu.qt (Pu.sNeq rfl rfl)) rfl ?_
    refine O.oc 2 rfl ?_
    refine J.cond rfl (fun h4 => ?_) (fun h4 => ?_)
    ·
      have h5 : (e3 == word) = false := not_flip h4
      refine J.cc 5 rfl ?_
      refine J.nilRow 3 1 ?_
      exact J.rn [_, _] [0] rfl ⟨rfl, rfl, trivial⟩ rfl ⟨Value.slice none 0 0, (by first | (rw [Cf.numbers_word he3 (by assumption)]; done) | (rw [Cf.numbers_word he3 (by assumption)]; rfl)), (by first | (rw [Cf.numbers_word he3 (by assumption)]; done) | (rw [Cf.numbers_word he3 (by assumption)]; rfl))⟩
    ·
      have h6 : (e3 == word) = true := not_flip h4
      refine J.co 9 rfl ?_
      refine O.q (Qt.lenM U72 rfl (Src.ro 1 rfl)) rfl ?_
      refine O.oc 3 rfl ?_
      refine J.nilRow 3 1 ?_
      refine J.lo (X := Nat × Value × List Int) (fun (k, V, out) => k ≤ ns.length ∧ Cf.numN (Wd.wordsL line) ns k = some out) (fun (k, V, out) => [(9, V), (33, .int .i64 (k : Int))]) (fun (k, V, out) => [row V 3 1 (out.map encZ)]) (fun (k, V, out) => ns.length - k) ⟨0, Value.slice none 0 0, []⟩ [8, 31, 32] [0] [1] ⟨by omega, rfl⟩ ⟨rfl, (eqi (by omega)), trivial⟩ rfl rfl ?_
      rintro ⟨k, V, out⟩ ⟨hk, hst⟩
      refine J.cc 5 rfl ?_
      refine J.cd rfl (fun p7 => ?_) (fun p7 => ?_)
      ·
        refine J.co 6 rfl ?_
        obtain ⟨e8, he8⟩ := ex_at (l := ns) (i := k) (by omega)
        refine O.q (Qt.idxM U72 Z9 rfl (Src.ro 1 rfl) rfl (by omega) (by omega)) rfl ?_
        refine O.q (Qt.le A9 (Src.ro 1 rfl) he8 0 rfl (by omega) rfl) rfl ?_
        refine O.oo 7 rfl ?_
        refine O.p (Pu.add' rfl rfl (by omega)) rfl ?_
        obtain ⟨e9, he9⟩ := ex_at (l := Wd.wordsL line) (i := (k + 1)) (by omega)
        refine O.q (Qt.idxM U72 Z9 rfl (Src.row 1 rfl) rfl (by omega) (by omega)) rfl ?_
        refine O.q (Qt.le A9 (Src.row 1 rfl) he9 0 rfl (by omega) rfl) rfl ?_
        refine O.oo 1 rfl ?_
        refine O.p (Pu.sAdd rfl rfl (by have h1_ := hns _ (List.mem_of_getElem? (by assumption)); simp only [List.length_append, List.length_cons, List.length_nil]; omega)) rfl ?_
        refine O.l (Lo.ca C109 (s_CutPrefix e9 (e8 ++ ([61] : List UInt8))) [] rfl rfl .nil) rfl ?_
        rintro _ _ ⟨_, ⟨rfl, rfl⟩, rfl⟩
        refine O.oo 9 rfl ?_
        refine O.l (Lo.ca C110 (dec_Parse ((Cf.cutPre e9 (e8 ++ ([61] : List UInt8))).1) (by first | omega | (have h_ := Wd.words_cut (s := line) (by assumption); omega) | (have h0_ := Cf.num_len hst; simp only [List.length_append, List.length_cons, List.length_nil]; omega) | (have h_ := Wd.words_cut (s := line) (by assumption); exact Nat.le_trans (Cf.cutPre_len _ _) (by omega)) | (simp only [List.length_append, List.length_cons, List.length_nil] at *; omega))) [] rfl rfl (.ro 0 rfl .nil)) rfl ?_
        rintro _ _ ⟨_, ⟨rfl, rfl⟩, rfl⟩
        refine O.oo 12 rfl ?_
        refine O.sp 56 rfl (fun h12 => ?_) (fun h12 => ?_)
        ·
          have h13 : ((Cf.cutPre e9 (e8 ++ ([61] : List UInt8))).2) = false := not_flip h12
          refine O.oc 10 rfl ?_
          refine J.nilRow 3 1 ?_
          exact J.rn [_, _] [0] rfl ⟨rfl, rfl, trivial⟩ rfl ⟨Value.slice none 0 0, (by first | (rw [Cf.numbers_bad (by omega) he3 (by assumption) hst he9 he8 (by first | exact Cf.bad_short (by omega) | exact Cf.bad_take (by assumption) | exact Cf.bad_parse (by omega) (by assumption) (by assumption) | (intro h_; simp_all; done) | (intro h_; omega))]; done) | (rw [Cf.numbers_bad (by omega) he3 (by assumption) hst he9 he8 (by first | exact Cf.bad_short (by omega) | exact Cf.bad_take (by assumption) | exact Cf.bad_parse (by omega) (by assumption) (by assumption) | (intro h_; simp_all; done) | (intro h_; omega))]; rfl)), (by first | (rw [Cf.numbers_bad (by omega) he3 (by assumption) hst he9 he8 (by first | exact Cf.bad_short (by omega) | exact Cf.bad_take (by assumption) | exact Cf.bad_parse (by omega) (by assumption) (by assumption) | (intro h_; simp_all; done) | (intro h_; omega))]; done) | (rw [Cf.numbers_bad (by omega) he3 (by assumption) hst he9 he8 (by first | exact Cf.bad_short (by omega) | exact Cf.bad_take (by assumption) | exact Cf.bad_parse (by omega) (by assumption) (by assumption) | (intro h_; simp_all; done) | (intro h_; omega))]; rfl))⟩
        ·
          have h14 : ((Cf.cutPre e9 (e8 ++ ([61] : List UInt8))).2) = true := not_flip h12
          refine O.oc 4 rfl ?_
          refine J.cd rfl (fun p15 => ?_) (fun p15 => ?_)
          ·
            refine J.cc 5 rfl ?_
            refine J.nilRow 3 1 ?_
            exact J.rn [_, _] [0] rfl ⟨rfl, rfl, trivial⟩ rfl ⟨Value.slice none 0 0, (by first | (rw [Cf.numbers_bad (by omega) he3 (by assumption) hst he9 he8 (by first | exact Cf.bad_short (by omega) | exact Cf.bad_take (by assumption) | exact Cf.bad_parse (by omega) (by assumption) (by assumption) | (intro h_; simp_all; done) | (intro h_; omega))]; done) | (rw [Cf.numbers_bad (by omega) he3 (by assumption) hst he9 he8 (by first | exact Cf.bad_short (by omega) | exact Cf.bad_take (by assumption) | exact Cf.bad_parse (by omega) (by assumption) (by assumption) | (intro h_; simp_all; done) | (intro h_; omega))]; rfl)), (by first | (rw [Cf.numbers_bad (by omega) he3 (by assumption) hst he9 he8 (by first | exact Cf.bad_short (by omega) | exact Cf.bad_take (by assumption) | exact Cf.bad_parse (by omega) (by assumption) (by assumption) | (intro h_; simp_all; done) | (intro h_; omega))]; done) | (rw [Cf.numbers_bad (by omega) he3 (by assumption) hst he9 he8 (by first | exact Cf.bad_short (by omega) | exact Cf.bad_take (by assumption) | exact Cf.bad_parse (by omega) (by assumption) (by assumption) | (intro h_; simp_all; done) | (intro h_; omega))]; rfl))⟩
          ·
            refine J.co 4 rfl ?_
            refine O.l (Lo.bm encZ [(Dc.parse ((Cf.cutPre e9 (e8 ++ ([61] : List UInt8))).1)).1] U53 Z3 Y3 rfl rfl rfl (by kernel_rfl) rfl rfl) rfl ?_
            rintro V16 _ rfl
            refine O.l (Lo.am 1 N53 info3 rfl rfl rfl rfl rfl (Src.row 0 rfl) encZ.one (by first | omega | (have h_ := Wd.words_cut (s := line) (by assumption); omega) | (have h0_ := Cf.num_len hst; simp only [List.length_append, List.length_cons, List.length_nil]; omega) | (have h_ := Wd.words_cut (s := line) (by assumption); exact Nat.le_trans (Cf.cutPre_len _ _) (by omega)) | (simp only [List.length_append, List.length_cons, List.length_nil] at *; omega)) (by first | omega | (have h_ := Wd.words_cut (s := line) (by assumption); omega) | (have h0_ := Cf.num_len hst; simp only [List.length_append, List.length_cons, List.length_nil]; omega) | (have h_ := Wd.words_cut (s := line) (by assumption); exact Nat.le_trans (Cf.cutPre_len _ _) (by omega)) | (simp only [List.length_append, List.length_cons, List.length_nil] at *; omega))) rfl ?_
            rintro V17 _ rfl
            refine O.oo 4 rfl ?_
            refine O.p (Pu.add' rfl rfl (by omega)) rfl ?_
            refine O.oc 2 rfl ?_
            exact J.lq ⟨k + 1, V17, out ++ ([(Dc.parse ((Cf.cutPre e9 (e8 ++ ([61] : List UInt8))).1)).1])⟩ [8, 31, 32] [1] [2] ⟨by omega, Cf.num_next hst he9 he8 (by assumption) (by omega)⟩ (by dsimp only; omega) ⟨rfl, (eqi (by omega)), trivial⟩ rfl rfl
      ·
        refine J.cc 7 rfl ?_
        exact J.rn [_, _] [0] rfl ⟨rfl, rfl, trivial⟩ rfl ⟨V, (by first | (rw [Cf.numbers_all (by omega) he3 (by assumption) hst (by omega)]; done) | (rw [Cf.numbers_all (by omega) he3 (by assumption) hst (by omega)]; rfl)), (by first | (rw [Cf.numbers_all (by omega) he3 (by assumption) hst (by omega)]; done) | (rw [Cf.numbers_all (by omega) he3 (by assumption) hst (by omega)]; rfl))⟩

end Go.Proofs.YtnhfgnnpbipcnaaGreatDoor
