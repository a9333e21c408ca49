/-
  Several texts in one: SI5, SI6, SI7.
-/
import Derived.KernelRfl
import Derived.Test.YtnhfgnnpbipcnaaGreatDoorSIE
import Derived.Test.YtnhfgnnpbipcnaaGreatDoorSiteA
import Derived.Test.YtnhfgnnpbipcnaaGreatDoorCX3
import Derived.Test.YtnhfgnnpbipcnaaGreatDoorDX3
namespace Go.Proofs.YtnhfgnnpbipcnaaGreatDoor
open Go Go.LK
set_option linter.unusedSimpArgs false

set_option maxRecDepth 100000 in
theorem si_names  : Tri Tryz.prog 37 #[] [] [] (fun v L' => L' = [row v 9 1 (Si.names.map encS)]) := by
  refine Tri.en F37 rfl K37 rfl fun w0 => ?_
  refine J.co 6 rfl ?_
  refine O.l (Lo.bm encS [[98, 117, 115, 105, 110, 101, 115, 115], [99, 108, 97, 115, 115, 101, 115], [114, 111, 116, 97, 116, 101]] U72 Z9 Y9 rfl rfl rfl (by kernel_rfl) rfl rfl) rfl ?_
  rintro V1 _ rfl
  refine O.oc 2 rfl ?_
  exact J.r1 [0] rfl rfl rfl rfl

set_option maxRecDepth 100000 in
theorem r30_names  : Tri Tryz.prog 42 #[] [] [] (fun v L' => L' = [row v 9 1 (Si.names.map encS)]) := by
  refine Tri.en F42 rfl K42 rfl fun w0 => ?_
  refine J.co 6 rfl ?_
  refine O.l (Lo.bm encS [[98, 117, 115, 105, 110, 101, 115, 115], [99, 108, 97, 115, 115, 101, 115], [114, 111, 116, 97, 116, 101]] U72 Z9 Y9 rfl rfl rfl (by kernel_rfl) rfl rfl) rfl ?_
  rintro V1 _ rfl
  refine O.oc 2 rfl ?_
  exact J.r1 [0] rfl rfl rfl rfl

theorem s_Join10 (tv : Value) (ts : List (List UInt8)) (hne : ts ≠ []) (hn : ts.length ≤ 100000) (hl : (Lib.join ts [10]).length ≤ 100000000) : Tri Tryz.prog 40 #[tv, str [10]] [rd tv 1 (ts.map encS)] [] (fun v L' => v = str (Lib.join ts [10]) ∧ L' = []) :=
  Tri.lib fun w hro => by
    have he : Elt w tv 1 (ts.map encS) := hro (rd tv 1 (ts.map encS)) (by simp)
    obtain ⟨cap, hv⟩ := he.addr (by simpa using hne)
    obtain ⟨A0, cap0, hv0, hle, _⟩ := he.form
    have hcells := he.cells
    have hcap : ts.length ≤ cap := by
      rw [hv] at hv0
      injection hv0 with h1 h2 h3
      rw [List.length_map] at hle
      omega
    clear he hv0 hle hro
    rw [List.length_map] at hv
    generalize vblk tv = b at hv hcells
    generalize voff tv = o at hv hcells
    subst hv
    have hc : ∀ (j : Nat) x, (ts.map fun t => (⟨t.toArray⟩ : ByteArray))[j]? = some x → w.cell? ⟨b, o + j, none⟩ = some (.string x) := fun j x hx => by
      rw [List.getElem?_map] at hx
      obtain ⟨t, ht, rfl⟩ := Option.map_eq_some_iff.1 hx
      have := hcells j (encS t) 0 (str t) (by rw [List.getElem?_map, ht]; rfl) rfl
      rwa [Nat.mul_one, Nat.add_zero] at this
    have hb : b < w.heap.size := by
      obtain ⟨t, ht⟩ := List.exists_mem_of_ne_nil ts hne
      obtain ⟨j, hj⟩ := List.mem_iff_getElem?.1 ht
      exact cell_lt (hc j ⟨t.toArray⟩ (by rw [List.getElem?_map, hj]; rfl))
    have hmap : (ts.map fun t => (⟨t.toArray⟩ : ByteArray)).map (·.data.toList) = ts := by
      rw [List.map_map]
      show ts.map (fun t => t) = ts
      simp
    have h := Tryz.strings_Join b o cap (ts.map fun t => ⟨t.toArray⟩) ⟨[10].toArray⟩ w hc hb (by rw [List.length_map]; omega) (by rw [List.length_map]; exact hcap) (by rw [hmap]; exact Nat.le_trans hl (by decide))
    rw [hmap, List.length_map] at h
    exact h.mono fun e w' ⟨he, hw⟩ => ⟨he, Frame.of_below hw⟩

set_option maxRecDepth 100000 in
set_option maxHeartbeats 1000000 in
theorem si_Text (b c r : Int) (n : Nat) (sv : Value) (l : List Sg) (hl : l.length ≤ 10) (hc : ∀ s ∈ l, s.cl.length ≤ 10) (hI : Si.okS l) (hI3 : Kn.I64s [b, c, r]) (hn : n < 18446744073709551616) : Tri Tryz.prog 16 #[.agg #[.int .i64 b, .int .i64 c, .int .i64 r, .int .u64 (Nat.cast n : Int), sv]] [libW, var 1 (Kn.names.map vS) 144, var 0 (Hx.hexDigits.map valU8) 101, rd sv 14 (l.map Sg.cells), ros (l.map Sg.rd)] [] (fun v L' => v = str (Si.text b c r n l) ∧ L' = []) := by
 refine Tri.en F16 rfl K16 rfl fun w0 => ?_
 refine J.co 2 rfl ?_
 refine O.one (Src.ro 3 rfl) (fun hV2 => ?_)
 refine O.l (Lo.bx rfl rfl) rfl ?_
 rintro _ _ ⟨g1, rfl, rfl⟩
 refine O.oc 3 rfl ?_
 refine J.drawA Tryz.mixed ?_
 refine A.edge 0 7 rfl ?_ ?_
 ·
  refine A.mx [(1, false), (2, false), (3, false), (4, false), (5, false), (6, false), (9, false), (10, false), (7, true), (0, true), (8, false), (11, false), (12, false), (13, true), (14, false), (15, true), (16, false)] [0] (by kernel_rfl) rfl ?_
  refine Mx.r 1 rfl ?_
  refine Mx.q rfl (Qt.lv 0 A3 rfl rfl rfl) rfl ?_
  refine Mx.r 1 rfl ?_
  refine Mx.q rfl (Qt.lv 0 A3 rfl rfl rfl) rfl ?_
  refine Mx.r 1 rfl ?_
  refine Mx.q rfl (Qt.lv 0 A3 rfl rfl rfl) rfl ?_
  refine Mx.r 1 rfl ?_
  refine Mx.q rfl (Qt.lv 0 A22 rfl rfl rfl) rfl ?_
  refine Mx.l rfl (Lo.bm encZ [b, c, r] U53 Z3 Y3 rfl rfl rfl (by kernel_rfl) rfl rfl) rfl ?_
  rintro V3 _ rfl
  refine MxK.gp [0, 1] [1] rfl rfl ?_
  refine Mx.l rfl (Lo.ca C37 si_names [] rfl rfl .nil) rfl ?_
  rintro v4 _ ⟨_, rfl, rfl⟩
  refine MxK.gp [0, 1, 2] [1, 2] rfl rfl ?_
  refine Mx.call (vs := [str ([115, 105, 116, 101]), v4, V3]) (caps := []) rfl (by exact C36) rfl rfl (cf_Row ([115, 105, 116, 101]) v4 Si.names V3 ([b, c, r]) (by decide) (by decide) (by decide) (by simp only [List.length_cons, List.length_nil]; omega) hI3) (fun _ _ h => h) (RoOk.ro 0 rfl [] rfl (RoOk.of 0 rfl row_rd [] (by decide) rfl (RoOk.of 1 rfl row_rd [] (by decide) rfl RoOk.nil))) rfl ?_
  refine Mx.call (vs := [.int .u64 (Nat.cast n : Int)]) (caps := []) rfl (by exact C38) rfl rfl (dec_Hex n ‹_›) (fun _ _ h => h) (RoOk.ro 2 rfl [] rfl RoOk.nil) rfl ?_
  refine Mx.p rfl (Pu.sAdd rfl rfl (by first | (have h1_ : (Cf.row [115, 105, 116, 101] Si.names [b, c, r]).length ≤ 124 := Si.row3_len hI3; have h2_ : (Hx.hexL n 16).length = 16 := Hx.hexL_len 16 n; simp only [List.length_append, List.length_cons, List.length_nil]; omega) | (have h_ := Si.txt_len (L := out) (m := 434) (fun w hw => by rw [hout] at hw; rcases List.mem_cons.1 hw with rfl | hw2; (· exact Nat.le_trans (Si.first_len hI3) (by decide)); (· exact Si.linesK_le hI w hw2)); rw [hout, ← Si.txt_join, List.length_append] at h_; have h2_ := Si.linesK_len (k := k) hc hk; rw [hout]; simp only [List.length_cons] at h_; omega) | (have h3_ : (Lib.join out [10]).length ≤ 100000000 := (by have h_ := Si.txt_len (L := out) (m := 434) (fun w hw => by rw [hout] at hw; rcases List.mem_cons.1 hw with rfl | hw2; (· exact Nat.le_trans (Si.first_len hI3) (by decide)); (· exact Si.linesK_le hI w hw2)); rw [hout, ← Si.txt_join, List.length_append] at h_; have h2_ := Si.linesK_len (k := k) hc hk; rw [hout]; simp only [List.length_cons] at h_; omega); simp only [List.length_append, List.length_cons, List.length_nil]; omega))) rfl ?_
  refine Mx.l rfl (Lo.bm encS [Cf.row ([115, 105, 116, 101]) Si.names ([b, c, r]), ([107, 101, 121, 61]) ++ (Hx.hexL n 16)] U72 Z9 Y9 rfl rfl rfl (by kernel_rfl) rfl rfl) rfl ?_
  rintro V5 _ rfl
  refine MxK.gp [0, 1, 2, 3] [1, 2, 3] rfl rfl ?_
  refine Mx.call (vs := [V5]) (caps := []) rfl (by exact C35) rfl rfl (w_Join V5 ([Cf.row ([115, 105, 116, 101]) Si.names ([b, c, r]), ([107, 101, 121, 61]) ++ (Hx.hexL n 16)]) (by simp) (by simp) (by intro x_ hx_; have h1_ : (Cf.row [115, 105, 116, 101] Si.names [b, c, r]).length ≤ 124 := Si.row3_len hI3; have h2_ : (Hx.hexL n 16).length = 16 := Hx.hexL_len 16 n; simp only [List.mem_cons, List.not_mem_nil, or_false] at hx_; rcases hx_ with rfl | rfl; (· omega); (· simp only [List.length_append, List.length_cons, List.length_nil]; omega))) (fun _ _ h => h) (RoOk.of 0 rfl row_rd [] (by decide) rfl RoOk.nil) rfl ?_
  refine Mx.l rfl (Lo.bm encS [Lib.join ([Cf.row ([115, 105, 116, 101]) Si.names ([b, c, r]), ([107, 101, 121, 61]) ++ (Hx.hexL n 16)]) [32]] U72 Z9 Y9 rfl rfl rfl (by kernel_rfl) rfl rfl) rfl ?_
  rintro V6 _ rfl
  refine MxK.gp [1, 2, 3, 4] [0, 1, 2, 3] rfl rfl ?_
  refine Mx.r 1 rfl ?_
  refine Mx.nil ?_
  refine J.co 4 rfl ?_
  refine O.q (Qt.lv 4 A23 rfl rfl rfl) rfl ?_
  refine O.q (Qt.lenM U23 rfl (Src.ro 3 rfl)) rfl ?_
  refine O.oc 3 rfl ?_
  refine J.lo (X := Nat × Value × List Wd.Bs) (fun (k, V, out) => k ≤ l.length ∧ out = Si.first b c r n :: Si.linesK l k) (fun (k, V, out) => [(3, V), (25, .int .i64 (k : Int))]) (fun (k, V, out) => [row V 9 1 (out.map encS)]) (fun (k, V, out) => l.length - k) ⟨0, V6, [Lib.join ([Cf.row ([115, 105, 116, 101]) Si.names ([b, c, r]), ([107, 101, 121, 61]) ++ (Hx.hexL n 16)]) [32]]⟩ [2, 23, 24] [0] [] ⟨by omega, rfl⟩ ⟨rfl, (eqi (by omega)), trivial⟩ rfl rfl ?_
  rintro ⟨k, V, out⟩ ⟨hk, hout⟩
  refine J.cc 5 rfl ?_
  refine J.cd rfl (fun p7 => ?_) (fun p7 => ?_)
  ·
   refine J.cc 4 rfl ?_
   obtain ⟨e8, he8⟩ := ex_at (l := l) (i := k) (by omega)
   refine J.ros 4 rfl (A := rd e8.cv 4 (e8.cl.map Cl.cells)) (List.mem_map.2 ⟨e8, List.mem_of_getElem? he8, rfl⟩) ?_
   have hIe := hI e8 (List.mem_of_getElem? he8)
   have hce := hc e8 (List.mem_of_getElem? he8)
   refine J.region ?_
   refine O.q (Qt.idxM U23 Z47 rfl (Src.ro 3 rfl) rfl (by omega) (by omega)) rfl ?_
   refine O.q (Qt.lea A47 Z47 (Src.ro 3 rfl) he8 0 rfl (by omega) rfl) rfl ?_
   refine O.l (Lo.al Y47 rfl) rfl ?_
   rintro _ _ ⟨g9, rfl, rfl⟩
   refine O.one (Src.ro 5 rfl) (fun hV10 => ?_)
   refine O.l0 (Lo.st 0 Z47 rfl rfl rfl rfl rfl (by simp only [List.all_cons, List.all_nil, Bool.and_true, hV10] <;> rfl) rfl) ?_
   rintro _ _ rfl
   refine O.oo 3 rfl ?_
   refine O.q (Qt.lva 0 A47 Z47 rfl rfl rfl) rfl ?_
   refine O.l (Lo.ca C39 (cf_Lines e8.x0 e8.x1 e8.x2 e8.x3 e8.x4 e8.x5 e8.x6 e8.x7 e8.x8 e8.x9 e8.x10 e8.x11 e8.x12 e8.cv e8.cl hIe.1 hIe.2 (by omega)) [] rfl rfl (.ro 0 rfl (.ro 1 rfl (.ro 5 rfl .nil)))) rfl ?_
   rintro v11 _ ⟨_, rfl, rfl⟩
   refine O.l (Lo.am 2 N72 info9 rfl rfl rfl rfl rfl (Src.row 0 rfl) encS.one (by first | omega | (rw [hout, Cf.lines_len]; have h_ := Si.linesK_len (k := k) hc hk; simp only [List.length_cons]; omega)) (by first | omega | (rw [hout, Cf.lines_len]; have h_ := Si.linesK_len (k := k) hc hk; simp only [List.length_cons]; omega))) rfl ?_
   rintro V12 _ rfl
   refine O.oo 4 rfl ?_
   refine O.p (Pu.add' rfl rfl (by omega)) rfl ?_
   refine O.oc 2 rfl ?_
   exact J.lq ⟨k + 1, V12, out ++ (Cf.lines [e8.x0, e8.x1, e8.x2, e8.x3, e8.x4, e8.x5, e8.x6, e8.x7, e8.x8, e8.x9, e8.x10, e8.x11, e8.x12] e8.cl)⟩ [2, 23, 24] [2] [] ⟨by omega, (by rw [hout, Si.linesK_next he8]; rfl)⟩ (by dsimp only; omega) ⟨rfl, (eqi (by omega)), trivial⟩ rfl rfl
  ·
   refine J.co 4 rfl ?_
   refine O.l (Lo.ca C40 (s_Join10 V out (by rw [hout]; simp) (by rw [hout]; have h_ := Si.linesK_len (k := k) hc hk; simp only [List.length_cons]; omega) (by have h_ := Si.txt_len (L := out) (m := 434) (fun w hw => by rw [hout] at hw; rcases List.mem_cons.1 hw with rfl | hw2; (· exact Nat.le_trans (Si.first_len hI3) (by decide)); (· exact Si.linesK_le hI w hw2)); rw [hout, ← Si.txt_join, List.length_append] at h_; have h2_ := Si.linesK_len (k := k) hc hk; rw [hout]; simp only [List.length_cons] at h_; omega)) [] rfl rfl (.of 0 row_rd rfl rfl .nil)) rfl ?_
   rintro _ _ ⟨_, ⟨rfl, rfl⟩, rfl⟩
   refine O.p (Pu.sAdd rfl rfl (by first | (have h1_ : (Cf.row [115, 105, 116, 101] Si.names [b, c, r]).length ≤ 124 := Si.row3_len hI3; have h2_ : (Hx.hexL n 16).length = 16 := Hx.hexL_len 16 n; simp only [List.length_append, List.length_cons, List.length_nil]; omega) | (have h_ := Si.txt_len (L := out) (m := 434) (fun w hw => by rw [hout] at hw; rcases List.mem_cons.1 hw with rfl | hw2; (· exact Nat.le_trans (Si.first_len hI3) (by decide)); (· exact Si.linesK_le hI w hw2)); rw [hout, ← Si.txt_join, List.length_append] at h_; have h2_ := Si.linesK_len (k := k) hc hk; rw [hout]; simp only [List.length_cons] at h_; omega) | (have h3_ : (Lib.join out [10]).length ≤ 100000000 := (by have h_ := Si.txt_len (L := out) (m := 434) (fun w hw => by rw [hout] at hw; rcases List.mem_cons.1 hw with rfl | hw2; (· exact Nat.le_trans (Si.first_len hI3) (by decide)); (· exact Si.linesK_le hI w hw2)); rw [hout, ← Si.txt_join, List.length_append] at h_; have h2_ := Si.linesK_len (k := k) hc hk; rw [hout]; simp only [List.length_cons] at h_; omega); simp only [List.length_append, List.length_cons, List.length_nil]; omega))) rfl ?_
   refine O.oc 2 rfl ?_
   exact J.r0 rfl rfl ⟨(by rw [hout]; show str (Lib.join _ [10] ++ [10]) = _; rw [Si.txt_join, Si.linesK_all (by omega) (by omega)]; rfl), rfl⟩
 ·
  refine A.mx [(1, false), (2, false), (3, false), (4, false), (5, false), (6, false), (9, false), (10, false), (0, true), (7, true), (8, false), (11, false), (12, false), (13, true), (14, false), (15, true), (16, false)] [0] (by kernel_rfl) rfl ?_
  refine Mx.r 1 rfl ?_
  refine Mx.q rfl (Qt.lv 0 A3 rfl rfl rfl) rfl ?_
  refine Mx.r 1 rfl ?_
  refine Mx.q rfl (Qt.lv 0 A3 rfl rfl rfl) rfl ?_
  refine Mx.r 1 rfl ?_
  refine Mx.q rfl (Qt.lv 0 A3 rfl rfl rfl) rfl ?_
  refine Mx.r 1 rfl ?_
  refine Mx.q rfl (Qt.lv 0 A22 rfl rfl rfl) rfl ?_
  refine Mx.l rfl (Lo.ca C37 si_names [] rfl rfl .nil) rfl ?_
  rintro v14 _ ⟨_, rfl, rfl⟩
  refine MxK.gp [0, 1] [1] rfl rfl ?_
  refine Mx.l rfl (Lo.bm encZ [b, c, r] U53 Z3 Y3 rfl rfl rfl (by kernel_rfl) rfl rfl) rfl ?_
  rintro V15 _ rfl
  refine MxK.gp [0, 1, 2] [1, 2] rfl rfl ?_
  refine Mx.call (vs := [str ([115, 105, 116, 101]), v14, V15]) (caps := []) rfl (by exact C36) rfl rfl (cf_Row ([115, 105, 116, 101]) v14 Si.names V15 ([b, c, r]) (by decide) (by decide) (by decide) (by simp only [List.length_cons, List.length_nil]; omega) hI3) (fun _ _ h => h) (RoOk.ro 0 rfl [] rfl (RoOk.of 1 rfl row_rd [] (by decide) rfl (RoOk.of 0 rfl row_rd [] (by decide) rfl RoOk.nil))) rfl ?_
  refine Mx.call (vs := [.int .u64 (Nat.cast n : Int)]) (caps := []) rfl (by exact C38) rfl rfl (dec_Hex n ‹_›) (fun _ _ h => h) (RoOk.ro 2 rfl [] rfl RoOk.nil) rfl ?_
  refine Mx.p rfl (Pu.sAdd rfl rfl (by first | (have h1_ : (Cf.row [115, 105, 116, 101] Si.names [b, c, r]).length ≤ 124 := Si.row3_len hI3; have h2_ : (Hx.hexL n 16).length = 16 := Hx.hexL_len 16 n; simp only [List.length_append, List.length_cons, List.length_nil]; omega) | (have h_ := Si.txt_len (L := out) (m := 434) (fun w hw => by rw [hout] at hw; rcases List.mem_cons.1 hw with rfl | hw2; (· exact Nat.le_trans (Si.first_len hI3) (by decide)); (· exact Si.linesK_le hI w hw2)); rw [hout, ← Si.txt_join, List.length_append] at h_; have h2_ := Si.linesK_len (k := k) hc hk; rw [hout]; simp only [List.length_cons] at h_; omega) | (have h3_ : (Lib.join out [10]).length ≤ 100000000 := (by have h_ := Si.txt_len (L := out) (m := 434) (fun w hw => by rw [hout] at hw; rcases List.mem_cons.1 hw with rfl | hw2; (· exact Nat.le_trans (Si.first_len hI3) (by decide)); (· exact Si.linesK_le hI w hw2)); rw [hout, ← Si.txt_join, List.length_append] at h_; have h2_ := Si.linesK_len (k := k) hc hk; rw [hout]; simp only [List.length_cons] at h_; omega); simp only [List.length_append, List.length_cons, List.length_nil]; omega))) rfl ?_
  refine Mx.l rfl (Lo.bm encS [Cf.row ([115, 105, 116, 101]) Si.names ([b, c, r]), ([107, 101, 121, 61]) ++ (Hx.hexL n 16)] U72 Z9 Y9 rfl rfl rfl (by kernel_rfl) rfl rfl) rfl ?_
  rintro V16 _ rfl
  refine MxK.gp [0, 1, 2, 3] [1, 2, 3] rfl rfl ?_
  refine Mx.call (vs := [V16]) (caps := []) rfl (by exact C35) rfl rfl (w_Join V16 ([Cf.row ([115, 105, 116, 101]) Si.names ([b, c, r]), ([107, 101, 121, 61]) ++ (Hx.hexL n 16)]) (by simp) (by simp) (by intro x_ hx_; have h1_ : (Cf.row [115, 105, 116, 101] Si.names [b, c, r]).length ≤ 124 := Si.row3_len hI3; have h2_ : (Hx.hexL n 16).length = 16 := Hx.hexL_len 16 n; simp only [List.mem_cons, List.not_mem_nil, or_false] at hx_; rcases hx_ with rfl | rfl; (· omega); (· simp only [List.length_append, List.length_cons, List.length_nil]; omega))) (fun _ _ h => h) (RoOk.of 0 rfl row_rd [] (by decide) rfl RoOk.nil) rfl ?_
  refine Mx.l rfl (Lo.bm encS [Lib.join ([Cf.row ([115, 105, 116, 101]) Si.names ([b, c, r]), ([107, 101, 121, 61]) ++ (Hx.hexL n 16)]) [32]] U72 Z9 Y9 rfl rfl rfl (by kernel_rfl) rfl rfl) rfl ?_
  rintro V17 _ rfl
  refine MxK.gp [1, 2, 3, 4] [0, 1, 2, 3] rfl rfl ?_
  refine Mx.r 1 rfl ?_
  refine Mx.nil ?_
  refine J.co 4 rfl ?_
  refine O.q (Qt.lv 4 A23 rfl rfl rfl) rfl ?_
  refine O.q (Qt.lenM U23 rfl (Src.ro 3 rfl)) rfl ?_
  refine O.oc 3 rfl ?_
  refine J.lo (X := Nat × Value × List Wd.Bs) (fun (k, V, out) => k ≤ l.length ∧ out = Si.first b c r n :: Si.linesK l k) (fun (k, V, out) => [(3, V), (25, .int .i64 (k : Int))]) (fun (k, V, out) => [row V 9 1 (out.map encS)]) (fun (k, V, out) => l.length - k) ⟨0, V17, [Lib.join ([Cf.row ([115, 105, 116, 101]) Si.names ([b, c, r]), ([107, 101, 121, 61]) ++ (Hx.hexL n 16)]) [32]]⟩ [2, 23, 24] [0] [] ⟨by omega, rfl⟩ ⟨rfl, (eqi (by omega)), trivial⟩ rfl rfl ?_
  rintro ⟨k, V, out⟩ ⟨hk, hout⟩
  refine J.cc 5 rfl ?_
  refine J.cd rfl (fun p18 => ?_) (fun p18 => ?_)
  ·
   refine J.cc 4 rfl ?_
   obtain ⟨e19, he19⟩ := ex_at (l := l) (i := k) (by omega)
   refine J.ros 4 rfl (A := rd e19.cv 4 (e19.cl.map Cl.cells)) (List.mem_map.2 ⟨e19, List.mem_of_getElem? he19, rfl⟩) ?_
   have hIe := hI e19 (List.mem_of_getElem? he19)
   have hce := hc e19 (List.mem_of_getElem? he19)
   refine J.region ?_
   refine O.q (Qt.idxM U23 Z47 rfl (Src.ro 3 rfl) rfl (by omega) (by omega)) rfl ?_
   refine O.q (Qt.lea A47 Z47 (Src.ro 3 rfl) he19 0 rfl (by omega) rfl) rfl ?_
   refine O.l (Lo.al Y47 rfl) rfl ?_
   rintro _ _ ⟨g20, rfl, rfl⟩
   refine O.one (Src.ro 5 rfl) (fun hV21 => ?_)
   refine O.l0 (Lo.st 0 Z47 rfl rfl rfl rfl rfl (by simp only [List.all_cons, List.all_nil, Bool.and_true, hV21] <;> rfl) rfl) ?_
   rintro _ _ rfl
   refine O.oo 3 rfl ?_
   refine O.q (Qt.lva 0 A47 Z47 rfl rfl rfl) rfl ?_
   refine O.l (Lo.ca C39 (cf_Lines e19.x0 e19.x1 e19.x2 e19.x3 e19.x4 e19.x5 e19.x6 e19.x7 e19.x8 e19.x9 e19.x10 e19.x11 e19.x12 e19.cv e19.cl hIe.1 hIe.2 (by omega)) [] rfl rfl (.ro 0 rfl (.ro 1 rfl (.ro 5 rfl .nil)))) rfl ?_
   rintro v22 _ ⟨_, rfl, rfl⟩
   refine O.l (Lo.am 2 N72 info9 rfl rfl rfl rfl rfl (Src.row 0 rfl) encS.one (by first | omega | (rw [hout, Cf.lines_len]; have h_ := Si.linesK_len (k := k) hc hk; simp only [List.length_cons]; omega)) (by first | omega | (rw [hout, Cf.lines_len]; have h_ := Si.linesK_len (k := k) hc hk; simp only [List.length_cons]; omega))) rfl ?_
   rintro V23 _ rfl
   refine O.oo 4 rfl ?_
   refine O.p (Pu.add' rfl rfl (by omega)) rfl ?_
   refine O.oc 2 rfl ?_
   exact J.lq ⟨k + 1, V23, out ++ (Cf.lines [e19.x0, e19.x1, e19.x2, e19.x3, e19.x4, e19.x5, e19.x6, e19.x7, e19.x8, e19.x9, e19.x10, e19.x11, e19.x12] e19.cl)⟩ [2, 23, 24] [2] [] ⟨by omega, (by rw [hout, Si.linesK_next he19]; rfl)⟩ (by dsimp only; omega) ⟨rfl, (eqi (by omega)), trivial⟩ rfl rfl
  ·
   refine J.co 4 rfl ?_
   refine O.l (Lo.ca C40 (s_Join10 V out (by rw [hout]; simp) (by rw [hout]; have h_ := Si.linesK_len (k := k) hc hk; simp only [List.length_cons]; omega) (by have h_ := Si.txt_len (L := out) (m := 434) (fun w hw => by rw [hout] at hw; rcases List.mem_cons.1 hw with rfl | hw2; (· exact Nat.le_trans (Si.first_len hI3) (by decide)); (· exact Si.linesK_le hI w hw2)); rw [hout, ← Si.txt_join, List.length_append] at h_; have h2_ := Si.linesK_len (k := k) hc hk; rw [hout]; simp only [List.length_cons] at h_; omega)) [] rfl rfl (.of 0 row_rd rfl rfl .nil)) rfl ?_
   rintro _ _ ⟨_, ⟨rfl, rfl⟩, rfl⟩
   refine O.p (Pu.sAdd rfl rfl (by first | (have h1_ : (Cf.row [115, 105, 116, 101] Si.names [b, c, r]).length ≤ 124 := Si.row3_len hI3; have h2_ : (Hx.hexL n 16).length = 16 := Hx.hexL_len 16 n; simp only [List.length_append, List.length_cons, List.length_nil]; omega) | (have h_ := Si.txt_len (L := out) (m := 434) (fun w hw => by rw [hout] at hw; rcases List.mem_cons.1 hw with rfl | hw2; (· exact Nat.le_trans (Si.first_len hI3) (by decide)); (· exact Si.linesK_le hI w hw2)); rw [hout, ← Si.txt_join, List.length_append] at h_; have h2_ := Si.linesK_len (k := k) hc hk; rw [hout]; simp only [List.length_cons] at h_; omega) | (have h3_ : (Lib.join out [10]).length ≤ 100000000 := (by have h_ := Si.txt_len (L := out) (m := 434) (fun w hw => by rw [hout] at hw; rcases List.mem_cons.1 hw with rfl | hw2; (· exact Nat.le_trans (Si.first_len hI3) (by decide)); (· exact Si.linesK_le hI w hw2)); rw [hout, ← Si.txt_join, List.length_append] at h_; have h2_ := Si.linesK_len (k := k) hc hk; rw [hout]; simp only [List.length_cons] at h_; omega); simp only [List.length_append, List.length_cons, List.length_nil]; omega))) rfl ?_
   refine O.oc 2 rfl ?_
   exact J.r0 rfl rfl ⟨(by rw [hout]; show str (Lib.join _ [10] ++ [10]) = _; rw [Si.txt_join, Si.linesK_all (by omega) (by omega)]; rfl), rfl⟩

end Go.Proofs.YtnhfgnnpbipcnaaGreatDoor

namespace Go.Proofs.YtnhfgnnpbipcnaaGreatDoor
open Go Go.LK
set_option linter.unusedSimpArgs false

set_option maxRecDepth 100000 in
set_option maxHeartbeats 1000000 in
theorem r30_Text (b c r : Int) (n : Nat) (sv : Value) (l : List Sg) (hl : l.length ≤ 10) (hc : ∀ s ∈ l, s.cl.length ≤ 10) (hI : Si.okS l) (hI3 : Kn.I64s [b, c, r]) (hn : n < 18446744073709551616) : Tri Tryz.prog 17 #[.agg #[.int .i64 b, .int .i64 c, .int .i64 r, .int .u64 (Nat.cast n : Int), sv]] [rd sv 14 (l.map Sg.cells), ros (l.map Sg.rd)] [] (fun v L' => v = str (Si.text b c r n l) ∧ L' = []) := by
  refine Tri.en F17 rfl K17 rfl fun w0 => ?_
  refine J.co 2 rfl ?_
  refine O.one (Src.ro 0 rfl) (fun hV2 => ?_)
  refine O.l (Lo.bx rfl rfl) rfl ?_
  rintro _ _ ⟨g1, rfl, rfl⟩
  refine O.oc 3 rfl ?_
  refine J.drawA Tryz.mixed ?_
  refine A.edge 0 7 rfl ?_ ?_
  ·
    refine A.mx [(1, false), (2, false), (3, false), (4, false), (5, false), (6, false), (10, false), (11, false), (7, true), (0, true), (8, false), (9, false), (12, false), (13, false), (14, false), (15, false)] [0] (by kernel_rfl) rfl ?_
    refine Mx.r 1 rfl ?_
    refine Mx.q rfl (Qt.lv 0 A3 rfl rfl rfl) rfl ?_
    refine Mx.r 1 rfl ?_
    refine Mx.q rfl (Qt.lv 0 A3 rfl rfl rfl) rfl ?_
    refine Mx.r 1 rfl ?_
    refine Mx.q rfl (Qt.lv 0 A3 rfl rfl rfl) rfl ?_
    refine Mx.r 1 rfl ?_
    refine Mx.q rfl (Qt.lv 0 A22 rfl rfl rfl) rfl ?_
    refine Mx.l rfl (Lo.bm encZ [b, c, r] U53 Z3 Y3 rfl rfl rfl (by kernel_rfl) rfl rfl) rfl ?_
    rintro V3 _ rfl
    refine MxK.gp [0, 1] [1] rfl rfl ?_
    refine Mx.l rfl (Lo.ca C42 r30_names [] rfl rfl .nil) rfl ?_
    rintro v4 _ ⟨_, rfl, rfl⟩
    refine MxK.gp [0, 1, 2] [1, 2] rfl rfl ?_
    refine Mx.call (vs := [str ([115, 105, 116, 101]), v4, V3]) (caps := []) rfl (by exact C41) rfl rfl (r28_Row ([115, 105, 116, 101]) v4 Si.names V3 ([b, c, r]) (by decide) (by decide) (by decide) (by simp only [List.length_cons, List.length_nil]; omega) hI3) (fun _ _ h => h) (RoOk.of 0 rfl row_rd [] (by decide) rfl (RoOk.of 1 rfl row_rd [] (by decide) rfl RoOk.nil)) rfl ?_
    refine Mx.p rfl (Pu.sAdd rfl rfl (by first | (have h1_ : (Cf.row [115, 105, 116, 101] Si.names [b, c, r]).length ≤ 124 := Si.row3_len hI3; have h2_ : (Hx.hexL n 16).length = 16 := Hx.hexL_len 16 n; simp only [List.length_append, List.length_cons, List.length_nil]; omega) | (have h3_ := Si.txtK_len (n := n) hI3 hI hc hl hk; have h4_ := Si.txtL_len (q := q) hIe.1 hIe.2 hce; have h5_ := Cf.lines_le hIe.1 hIe.2 _ (List.mem_of_getElem? (by assumption)); rw [ht2]; simp only [List.length_append, List.length_cons, List.length_nil]; omega))) rfl ?_
    refine Mx.call (vs := [.int .u64 (Nat.cast n : Int)]) (caps := []) rfl (by exact C43) rfl rfl (r05_Hex n (by assumption)) (fun _ _ h => h) RoOk.nil rfl ?_
    refine Mx.p rfl (Pu.sAdd rfl rfl (by first | (have h1_ : (Cf.row [115, 105, 116, 101] Si.names [b, c, r]).length ≤ 124 := Si.row3_len hI3; have h2_ : (Hx.hexL n 16).length = 16 := Hx.hexL_len 16 n; simp only [List.length_append, List.length_cons, List.length_nil]; omega) | (have h3_ := Si.txtK_len (n := n) hI3 hI hc hl hk; have h4_ := Si.txtL_len (q := q) hIe.1 hIe.2 hce; have h5_ := Cf.lines_le hIe.1 hIe.2 _ (List.mem_of_getElem? (by assumption)); rw [ht2]; simp only [List.length_append, List.length_cons, List.length_nil]; omega))) rfl ?_
    refine Mx.p rfl (Pu.sAdd rfl rfl (by first | (have h1_ : (Cf.row [115, 105, 116, 101] Si.names [b, c, r]).length ≤ 124 := Si.row3_len hI3; have h2_ : (Hx.hexL n 16).length = 16 := Hx.hexL_len 16 n; simp only [List.length_append, List.length_cons, List.length_nil]; omega) | (have h3_ := Si.txtK_len (n := n) hI3 hI hc hl hk; have h4_ := Si.txtL_len (q := q) hIe.1 hIe.2 hce; have h5_ := Cf.lines_le hIe.1 hIe.2 _ (List.mem_of_getElem? (by assumption)); rw [ht2]; simp only [List.length_append, List.length_cons, List.length_nil]; omega))) rfl ?_
    refine Mx.r 1 rfl ?_
    refine Mx.nil ?_
    refine J.cc 6 rfl ?_
    refine J.lo (X := Nat × Wd.Bs) (fun (k, t) => k ≤ l.length ∧ t = Si.txt (Si.first b c r n :: Si.linesK l k)) (fun (k, t) => [(3, str t), (4, .int .i64 (k : Int))]) (fun (k, t) => []) (fun (k, t) => l.length - k) ⟨0, (((Cf.row ([115, 105, 116, 101]) Si.names ([b, c, r])) ++ ([32, 107, 101, 121, 61])) ++ (Hx.hexL n 16)) ++ ([10])⟩ [1, 2] [] [2] ⟨by omega, (by rw [Si.linesK_zero, Si.txt_one, ← Si.first_ref])⟩ ⟨rfl, (eqi (by omega)), trivial⟩ rfl rfl ?_
    rintro ⟨k, t⟩ ⟨hk, ht⟩
    refine J.co 5 rfl ?_
    refine O.q (Qt.lv 0 A23 rfl rfl rfl) rfl ?_
    refine O.q (Qt.lenM U23 rfl (Src.ro 0 rfl)) rfl ?_
    refine O.oc 2 rfl ?_
    refine J.cd rfl (fun p5 => ?_) (fun p5 => ?_)
    ·
      refine J.cc 4 rfl ?_
      obtain ⟨e6, he6⟩ := ex_at (l := l) (i := k) (by omega)
      refine J.ros 1 rfl (A := rd e6.cv 4 (e6.cl.map Cl.cells)) (List.mem_map.2 ⟨e6, List.mem_of_getElem? he6, rfl⟩) ?_
      have hIe := hI e6 (List.mem_of_getElem? he6)
      have hce := hc e6 (List.mem_of_getElem? he6)
      refine J.co 2 rfl ?_
      refine O.q (Qt.lv 0 A23 rfl rfl rfl) rfl ?_
      refine O.oo 1 rfl ?_
      refine O.q (Qt.idxM U23 Z47 rfl (Src.ro 0 rfl) rfl (by omega) (by omega)) rfl ?_
      refine O.q (Qt.lea A47 Z47 (Src.ro 0 rfl) he6 0 rfl (by omega) rfl) rfl ?_
      refine O.l (Lo.ca C44 (r28_Lines e6.x0 e6.x1 e6.x2 e6.x3 e6.x4 e6.x5 e6.x6 e6.x7 e6.x8 e6.x9 e6.x10 e6.x11 e6.x12 e6.cv e6.cl hIe.1 hIe.2 (by omega)) [] rfl rfl (.ro 2 rfl .nil)) rfl ?_
      rintro v7 _ ⟨_, rfl, rfl⟩
      refine O.oc 7 rfl ?_
      refine J.lo (X := Nat × Wd.Bs) (fun (q, t2) => q ≤ (Cf.lines e6.nums e6.cl).length ∧ t2 = Si.txt (Si.first b c r n :: Si.linesK l k) ++ Si.txt ((Cf.lines e6.nums e6.cl).take q)) (fun (q, t2) => [(3, str t2), (6, .int .i64 (q : Int))]) (fun (q, t2) => [row v7 9 1 ((Cf.lines e6.nums e6.cl).map encS)]) (fun (q, t2) => (Cf.lines e6.nums e6.cl).length - q) ⟨0, t⟩ [1, 2, 4, 5] [0] [1] ⟨by omega, (by rw [ht, List.take_zero]; exact (List.append_nil _).symm)⟩ ⟨rfl, (eqi (by omega)), trivial⟩ rfl rfl ?_
      rintro ⟨q, t2⟩ ⟨hq, ht2⟩
      refine J.co 5 rfl ?_
      refine O.q (Qt.lenM U72 rfl (Src.row 0 rfl)) rfl ?_
      refine O.oc 2 rfl ?_
      refine J.cd rfl (fun p8 => ?_) (fun p8 => ?_)
      ·
        refine J.co 7 rfl ?_
        obtain ⟨e9, he9⟩ := ex_at (l := Cf.lines e6.nums e6.cl) (i := q) (by omega)
        refine O.q (Qt.idxM U72 Z9 rfl (Src.row 0 rfl) rfl (by omega) (by omega)) rfl ?_
        refine O.q (Qt.le A9 (Src.row 0 rfl) he9 0 rfl (by omega) rfl) rfl ?_
        refine O.p (Pu.sAdd rfl rfl (by first | (have h1_ : (Cf.row [115, 105, 116, 101] Si.names [b, c, r]).length ≤ 124 := Si.row3_len hI3; have h2_ : (Hx.hexL n 16).length = 16 := Hx.hexL_len 16 n; simp only [List.length_append, List.length_cons, List.length_nil]; omega) | (have h3_ := Si.txtK_len (n := n) hI3 hI hc hl hk; have h4_ := Si.txtL_len (q := q) hIe.1 hIe.2 hce; have h5_ := Cf.lines_le hIe.1 hIe.2 _ (List.mem_of_getElem? (by assumption)); rw [ht2]; simp only [List.length_append, List.length_cons, List.length_nil]; omega))) rfl ?_
        refine O.p (Pu.sAdd rfl rfl (by first | (have h1_ : (Cf.row [115, 105, 116, 101] Si.names [b, c, r]).length ≤ 124 := Si.row3_len hI3; have h2_ : (Hx.hexL n 16).length = 16 := Hx.hexL_len 16 n; simp only [List.length_append, List.length_cons, List.length_nil]; omega) | (have h3_ := Si.txtK_len (n := n) hI3 hI hc hl hk; have h4_ := Si.txtL_len (q := q) hIe.1 hIe.2 hce; have h5_ := Cf.lines_le hIe.1 hIe.2 _ (List.mem_of_getElem? (by assumption)); rw [ht2]; simp only [List.length_append, List.length_cons, List.length_nil]; omega))) rfl ?_
        refine O.oo 5 rfl ?_
        refine O.p (Pu.add' rfl rfl (by first | omega | (simp only [Cf.lines_len] at *; omega))) rfl ?_
        refine O.oc 2 rfl ?_
        exact J.lq ⟨q + 1, (t2 ++ e9) ++ ([10])⟩ [1, 2, 4, 5] [0] [1] ⟨by omega, (by rw [ht2, Si.txt_next he9]; simp only [List.append_assoc])⟩ (by dsimp only; omega) ⟨rfl, (eqi (by omega)), trivial⟩ rfl rfl
      ·
        refine J.co 4 rfl ?_
        refine O.p (Pu.add' rfl rfl (by omega)) rfl ?_
        refine O.oc 2 rfl ?_
        exact J.lq ⟨k + 1, t2⟩ [1, 2] [] [1] ⟨by omega, (by rw [Si.linesK_next he6]; exact Si.txtL_all (L := Si.first b c r n :: Si.linesK l k) (by omega) ht2)⟩ (by dsimp only; omega) ⟨rfl, (eqi (by omega)), trivial⟩ rfl rfl
    ·
      refine J.cc 6 rfl ?_
      exact J.r0 rfl rfl ⟨(by rw [ht, Si.linesK_all (by omega) (by omega)]; rfl), rfl⟩
  ·
    refine A.mx [(1, false), (2, false), (3, false), (4, false), (5, false), (6, false), (10, false), (11, false), (0, true), (7, true), (8, false), (9, false), (12, false), (13, false), (14, false), (15, false)] [0] (by kernel_rfl) rfl ?_
    refine Mx.r 1 rfl ?_
    refine Mx.q rfl (Qt.lv 0 A3 rfl rfl rfl) rfl ?_
    refine Mx.r 1 rfl ?_
    refine Mx.q rfl (Qt.lv 0 A3 rfl rfl rfl) rfl ?_
    refine Mx.r 1 rfl ?_
    refine Mx.q rfl (Qt.lv 0 A3 rfl rfl rfl) rfl ?_
    refine Mx.r 1 rfl ?_
    refine Mx.q rfl (Qt.lv 0 A22 rfl rfl rfl) rfl ?_
    refine Mx.l rfl (Lo.ca C42 r30_names [] rfl rfl .nil) rfl ?_
    rintro v10 _ ⟨_, rfl, rfl⟩
    refine MxK.gp [0, 1] [1] rfl rfl ?_
    refine Mx.l rfl (Lo.bm encZ [b, c, r] U53 Z3 Y3 rfl rfl rfl (by kernel_rfl) rfl rfl) rfl ?_
    rintro V11 _ rfl
    refine MxK.gp [0, 1, 2] [1, 2] rfl rfl ?_
    refine Mx.call (vs := [str ([115, 105, 116, 101]), v10, V11]) (caps := []) rfl (by exact C41) rfl rfl (r28_Row ([115, 105, 116, 101]) v10 Si.names V11 ([b, c, r]) (by decide) (by decide) (by decide) (by simp only [List.length_cons, List.length_nil]; omega) hI3) (fun _ _ h => h) (RoOk.of 1 rfl row_rd [] (by decide) rfl (RoOk.of 0 rfl row_rd [] (by decide) rfl RoOk.nil)) rfl ?_
    refine Mx.p rfl (Pu.sAdd rfl rfl (by first | (have h1_ : (Cf.row [115, 105, 116, 101] Si.names [b, c, r]).length ≤ 124 := Si.row3_len hI3; have h2_ : (Hx.hexL n 16).length = 16 := Hx.hexL_len 16 n; simp only [List.length_append, List.length_cons, List.length_nil]; omega) | (have h3_ := Si.txtK_len (n := n) hI3 hI hc hl hk; have h4_ := Si.txtL_len (q := q) hIe.1 hIe.2 hce; have h5_ := Cf.lines_le hIe.1 hIe.2 _ (List.mem_of_getElem? (by assumption)); rw [ht2]; simp only [List.length_append, List.length_cons, List.length_nil]; omega))) rfl ?_
    refine Mx.call (vs := [.int .u64 (Nat.cast n : Int)]) (caps := []) rfl (by exact C43) rfl rfl (r05_Hex n (by assumption)) (fun _ _ h => h) RoOk.nil rfl ?_
    refine Mx.p rfl (Pu.sAdd rfl rfl (by first | (have h1_ : (Cf.row [115, 105, 116, 101] Si.names [b, c, r]).length ≤ 124 := Si.row3_len hI3; have h2_ : (Hx.hexL n 16).length = 16 := Hx.hexL_len 16 n; simp only [List.length_append, List.length_cons, List.length_nil]; omega) | (have h3_ := Si.txtK_len (n := n) hI3 hI hc hl hk; have h4_ := Si.txtL_len (q := q) hIe.1 hIe.2 hce; have h5_ := Cf.lines_le hIe.1 hIe.2 _ (List.mem_of_getElem? (by assumption)); rw [ht2]; simp only [List.length_append, List.length_cons, List.length_nil]; omega))) rfl ?_
    refine Mx.p rfl (Pu.sAdd rfl rfl (by first | (have h1_ : (Cf.row [115, 105, 116, 101] Si.names [b, c, r]).length ≤ 124 := Si.row3_len hI3; have h2_ : (Hx.hexL n 16).length = 16 := Hx.hexL_len 16 n; simp only [List.length_append, List.length_cons, List.length_nil]; omega) | (have h3_ := Si.txtK_len (n := n) hI3 hI hc hl hk; have h4_ := Si.txtL_len (q := q) hIe.1 hIe.2 hce; have h5_ := Cf.lines_le hIe.1 hIe.2 _ (List.mem_of_getElem? (by assumption)); rw [ht2]; simp only [List.length_append, List.length_cons, List.length_nil]; omega))) rfl ?_
    refine Mx.r 1 rfl ?_
    refine Mx.nil ?_
    refine J.cc 6 rfl ?_
    refine J.lo (X := Nat × Wd.Bs) (fun (k, t) => k ≤ l.length ∧ t = Si.txt (Si.first b c r n :: Si.linesK l k)) (fun (k, t) => [(3, str t), (4, .int .i64 (k : Int))]) (fun (k, t) => []) (fun (k, t) => l.length - k) ⟨0, (((Cf.row ([115, 105, 116, 101]) Si.names ([b, c, r])) ++ ([32, 107, 101, 121, 61])) ++ (Hx.hexL n 16)) ++ ([10])⟩ [1, 2] [] [2] ⟨by omega, (by rw [Si.linesK_zero, Si.txt_one, ← Si.first_ref])⟩ ⟨rfl, (eqi (by omega)), trivial⟩ rfl rfl ?_
    rintro ⟨k, t⟩ ⟨hk, ht⟩
    refine J.co 5 rfl ?_
    refine O.q (Qt.lv 0 A23 rfl rfl rfl) rfl ?_
    refine O.q (Qt.lenM U23 rfl (Src.ro 0 rfl)) rfl ?_
    refine O.oc 2 rfl ?_
    refine J.cd rfl (fun p12 => ?_) (fun p12 => ?_)
    ·
      refine J.cc 4 rfl ?_
      obtain ⟨e13, he13⟩ := ex_at (l := l) (i := k) (by omega)
      refine J.ros 1 rfl (A := rd e13.cv 4 (e13.cl.map Cl.cells)) (List.mem_map.2 ⟨e13, List.mem_of_getElem? he13, rfl⟩) ?_
      have hIe := hI e13 (List.mem_of_getElem? he13)
      have hce := hc e13 (List.mem_of_getElem? he13)
      refine J.co 2 rfl ?_
      refine O.q (Qt.lv 0 A23 rfl rfl rfl) rfl ?_
      refine O.oo 1 rfl ?_
      refine O.q (Qt.idxM U23 Z47 rfl (Src.ro 0 rfl) rfl (by omega) (by omega)) rfl ?_
      refine O.q (Qt.lea A47 Z47 (Src.ro 0 rfl) he13 0 rfl (by omega) rfl) rfl ?_
      refine O.l (Lo.ca C44 (r28_Lines e13.x0 e13.x1 e13.x2 e13.x3 e13.x4 e13.x5 e13.x6 e13.x7 e13.x8 e13.x9 e13.x10 e13.x11 e13.x12 e13.cv e13.cl hIe.1 hIe.2 (by omega)) [] rfl rfl (.ro 2 rfl .nil)) rfl ?_
      rintro v14 _ ⟨_, rfl, rfl⟩
      refine O.oc 7 rfl ?_
      refine J.lo (X := Nat × Wd.Bs) (fun (q, t2) => q ≤ (Cf.lines e13.nums e13.cl).length ∧ t2 = Si.txt (Si.first b c r n :: Si.linesK l k) ++ Si.txt ((Cf.lines e13.nums e13.cl).take q)) (fun (q, t2) => [(3, str t2), (6, .int .i64 (q : Int))]) (fun (q, t2) => [row v14 9 1 ((Cf.lines e13.nums e13.cl).map encS)]) (fun (q, t2) => (Cf.lines e13.nums e13.cl).length - q) ⟨0, t⟩ [1, 2, 4, 5] [0] [1] ⟨by omega, (by rw [ht, List.take_zero]; exact (List.append_nil _).symm)⟩ ⟨rfl, (eqi (by omega)), trivial⟩ rfl rfl ?_
      rintro ⟨q, t2⟩ ⟨hq, ht2⟩
      refine J.co 5 rfl ?_
      refine O.q (Qt.lenM U72 rfl (Src.row 0 rfl)) rfl ?_
      refine O.oc 2 rfl ?_
      refine J.cd rfl (fun p15 => ?_) (fun p15 => ?_)
      ·
        refine J.co 7 rfl ?_
        obtain ⟨e16, he16⟩ := ex_at (l := Cf.lines e13.nums e13.cl) (i := q) (by omega)
        refine O.q (Qt.idxM U72 Z9 rfl (Src.row 0 rfl) rfl (by omega) (by omega)) rfl ?_
        refine O.q (Qt.le A9 (Src.row 0 rfl) he16 0 rfl (by omega) rfl) rfl ?_
        refine O.p (Pu.sAdd rfl rfl (by first | (have h1_ : (Cf.row [115, 105, 116, 101] Si.names [b, c, r]).length ≤ 124 := Si.row3_len hI3; have h2_ : (Hx.hexL n 16).length = 16 := Hx.hexL_len 16 n; simp only [List.length_append, List.length_cons, List.length_nil]; omega) | (have h3_ := Si.txtK_len (n := n) hI3 hI hc hl hk; have h4_ := Si.txtL_len (q := q) hIe.1 hIe.2 hce; have h5_ := Cf.lines_le hIe.1 hIe.2 _ (List.mem_of_getElem? (by assumption)); rw [ht2]; simp only [List.length_append, List.length_cons, List.length_nil]; omega))) rfl ?_
        refine O.p (Pu.sAdd rfl rfl (by first | (have h1_ : (Cf.row [115, 105, 116, 101] Si.names [b, c, r]).length ≤ 124 := Si.row3_len hI3; have h2_ : (Hx.hexL n 16).length = 16 := Hx.hexL_len 16 n; simp only [List.length_append, List.length_cons, List.length_nil]; omega) | (have h3_ := Si.txtK_len (n := n) hI3 hI hc hl hk; have h4_ := Si.txtL_len (q := q) hIe.1 hIe.2 hce; have h5_ := Cf.lines_le hIe.1 hIe.2 _ (List.mem_of_getElem? (by assumption)); rw [ht2]; simp only [List.length_append, List.length_cons, List.length_nil]; omega))) rfl ?_
        refine O.oo 5 rfl ?_
        refine O.p (Pu.add' rfl rfl (by first | omega | (simp only [Cf.lines_len] at *; omega))) rfl ?_
        refine O.oc 2 rfl ?_
        exact J.lq ⟨q + 1, (t2 ++ e16) ++ ([10])⟩ [1, 2, 4, 5] [0] [1] ⟨by omega, (by rw [ht2, Si.txt_next he16]; simp only [List.append_assoc])⟩ (by dsimp only; omega) ⟨rfl, (eqi (by omega)), trivial⟩ rfl rfl
      ·
        refine J.co 4 rfl ?_
        refine O.p (Pu.add' rfl rfl (by omega)) rfl ?_
        refine O.oc 2 rfl ?_
        exact J.lq ⟨k + 1, t2⟩ [1, 2] [] [1] ⟨by omega, (by rw [Si.linesK_next he13]; exact Si.txtL_all (L := Si.first b c r n :: Si.linesK l k) (by omega) ht2)⟩ (by dsimp only; omega) ⟨rfl, (eqi (by omega)), trivial⟩ rfl rfl
    ·
      refine J.cc 6 rfl ?_
      exact J.r0 rfl rfl ⟨(by rw [ht, Si.linesK_all (by omega) (by omega)]; rfl), rfl⟩

end Go.Proofs.YtnhfgnnpbipcnaaGreatDoor

namespace Go.Proofs.YtnhfgnnpbipcnaaGreatDoor
open Go Go.LK
set_option linter.unusedSimpArgs false

end Go.Proofs.YtnhfgnnpbipcnaaGreatDoor
