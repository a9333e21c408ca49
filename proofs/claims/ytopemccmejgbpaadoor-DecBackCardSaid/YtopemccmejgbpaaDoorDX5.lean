/-
  Walks, printed by a program of mine (lk.py): each function meets its contract.
-/
import Derived.KernelRfl
import Derived.Test.YtopemccmejgbpaaDoorDX4
import Derived.Test.YtopemccmejgbpaaDoorDX3
namespace Go.Proofs.YtopemccmejgbpaaDoor
open Go Go.LK
set_option linter.unusedSimpArgs false

theorem dec_Parse_eq (s : List UInt8) (n c : Int) (hs : s.length ≤ 281474976710656) (h : Dc.parse s = (n, c)) : Tri Tryd.prog 7 #[str s] [libW] [] (fun v L' => v = .tuple #[.int .i64 n, .int .i64 c] ∧ L' = []) := by
  have := dec_Parse s hs
  rw [h] at this
  exact this
theorem dec_Text_eq (n : Int) (t : List UInt8) (h0 : -9223372036854775808 ≤ n) (h1 : n ≤ 9223372036854775807) (h : Lib.itoa n = t) : Tri Tryd.prog 11 #[.int .i64 n] [libW] [] (fun v L' => v = str t ∧ L' = []) := by
  have := dec_Text n h0 h1
  rw [h] at this
  exact this
theorem dec_ParseList_eq (s : List UInt8) (l : List Int) (c : Int) (hs : s.length ≤ 1000000) (h : Dc.parseList s = (l, c)) : Tri Tryd.prog 15 #[str s] [libW] [] (fun v L' => ∃ V', v = .tuple #[V', .int .i64 c] ∧ L' = [row V' 3 1 (l.map encZ)]) := by
  have := dec_ParseList s hs
  rw [h] at this
  exact this
theorem dec_ParseHex_eq (s : List UInt8) (n : Nat) (c : Int) (h : Hx.parse s = (n, c)) : Tri Tryd.prog 9 #[str s] [var 0 (Hx.hexDigits.map valU8) 46] [] (fun v L' => v = .tuple #[.int .u64 (Nat.cast n : Int), .int .i64 c] ∧ L' = []) := by
  have := dec_ParseHex s
  rw [h] at this
  exact this
theorem dec_Hex_eq (n : Nat) (t : List UInt8) (hn : n < 18446744073709551616) (h : Hx.hexL n 16 = t) : Tri Tryd.prog 13 #[.int .u64 (Nat.cast n : Int)] [var 0 (Hx.hexDigits.map valU8) 46] [] (fun v L' => v = str t ∧ L' = []) := by
  have := dec_Hex n hn
  rw [h] at this
  exact this
theorem it_neg7 : Lib.itoa (-7) = [45, 55] := by rw [Dc.itoa_min (by decide), Dc.dec_small (by decide)]; rfl
theorem it_7 : Lib.itoa 7 = [55] := by rw [Dc.itoa_pos (by decide), Dc.dec_small (by decide)]; rfl
theorem it_3 : Lib.itoa 3 = [51] := by rw [Dc.itoa_pos (by decide), Dc.dec_small (by decide)]; rfl
theorem it_neg1 : Lib.itoa (-1) = [45, 49] := by rw [Dc.itoa_min (by decide), Dc.dec_small (by decide)]; rfl
theorem aw_neg7 : Dc.parse [45, 55] = (-7, 0) := Dc.parse_ok (by rfl) (by rw [it_neg7]; rfl)
theorem aw_07 : Dc.parse [48, 55] = (0, 2) := Dc.parse_bad (n := 7) (by rfl) (by rw [it_7]; rfl)
theorem aw_3 : Dc.parse [51] = (3, 0) := Dc.parse_ok (by rfl) (by rw [it_3]; rfl)
theorem aw_neg1 : Dc.parse [45, 49] = (-1, 0) := Dc.parse_ok (by rfl) (by rw [it_neg1]; rfl)
theorem aw_list : Dc.parseList [51, 44, 45, 49] = ([3, -1], 0) := by
  have hsp : Lib.split [51, 44, 45, 49] [44] = [[51], [45, 49]] := by decide
  refine Dc.pl_all (by decide) ?_
  rw [hsp]
  have h1 : Dc.plU [[51], [45, 49]] 1 = some [3] := Dc.plU_next (k := 0) (out := []) (p := [51]) rfl rfl (by rw [aw_3]) |>.trans (by rw [aw_3]; rfl)
  exact (Dc.plU_next h1 (p := [45, 49]) rfl (by rw [aw_neg1])).trans (by rw [aw_neg1]; rfl)
theorem aw_hex : Hx.hexL 255 16 = [48, 48, 48, 48, 48, 48, 48, 48, 48, 48, 48, 48, 48, 48, 102, 102] := by decide
theorem aw_unhex : Hx.parse [48, 48, 48, 48, 48, 48, 48, 48, 48, 48, 48, 48, 48, 48, 102, 102] = (255, 0) := by decide

set_option maxRecDepth 100000 in
theorem law05_awake  : Tri Tryd.prog 6 #[] [libW, var 0 (Hx.hexDigits.map valU8) 46] [] (fun v L' => v = .bool true ∧ L' = []) := by
  refine Tri.enter (args := []) (body := _) 64 Tryd.func6 rfl Tryd.ntmps6 rfl ?_
  intro w0
  refine J.seq ?_
  refine J.region ?_
  refine O.p (Pu.assign rfl) rfl ?_
  refine O.nil ?_
  refine J.seq ?_
  refine J.region ?_
  refine O.l (Lo.call [str ([45, 55])] (by exact Tryd.call7) rfl (dec_Parse_eq [45, 55] (-7) 0 (by decide) aw_neg7) [] [] (by decide) rfl _ rfl (RoOk.ro 0 rfl [] rfl RoOk.nil)) rfl ?_
  rintro _ _ ⟨_, ⟨rfl, rfl⟩, rfl⟩
  refine O.p (Pu.move rfl) rfl ?_
  refine O.p (Pu.extract rfl rfl) rfl ?_
  refine O.p (Pu.extract rfl rfl) rfl ?_
  refine O.p (Pu.assign rfl) rfl ?_
  refine O.p (Pu.assign rfl) rfl ?_
  refine O.nil ?_
  refine J.seq ?_
  refine J.region ?_
  refine O.l (Lo.call [str ([48, 55])] (by exact Tryd.call7) rfl (dec_Parse_eq [48, 55] (0) 2 (by decide) aw_07) [] [] (by decide) rfl _ rfl (RoOk.ro 0 rfl [] rfl RoOk.nil)) rfl ?_
  rintro _ _ ⟨_, ⟨rfl, rfl⟩, rfl⟩
  refine O.p (Pu.move rfl) rfl ?_
  refine O.p (Pu.extract rfl rfl) rfl ?_
  refine O.p (Pu.extract rfl rfl) rfl ?_
  refine O.p (Pu.assign rfl) rfl ?_
  refine O.p (Pu.assign rfl) rfl ?_
  refine O.nil ?_
  refine J.seq ?_
  refine J.region ?_
  refine O.l (Lo.call [str ([51, 44, 45, 49])] (by exact Tryd.call15) rfl (dec_ParseList_eq [51, 44, 45, 49] [3, -1] 0 (by decide) aw_list) [] [] (by decide) rfl _ rfl (RoOk.ro 0 rfl [] rfl RoOk.nil)) rfl ?_
  rintro _ _ ⟨_, ⟨V3, rfl, rfl⟩, rfl⟩
  refine O.p (Pu.move rfl) rfl ?_
  refine O.p (Pu.extract rfl rfl) rfl ?_
  refine O.p (Pu.extract rfl rfl) rfl ?_
  refine O.p (Pu.assign rfl) rfl ?_
  refine O.p (Pu.assign rfl) rfl ?_
  refine O.nil ?_
  refine J.seq ?_
  refine J.region ?_
  refine O.l (Lo.call [str ([48, 48, 48, 48, 48, 48, 48, 48, 48, 48, 48, 48, 48, 48, 102, 102])] (by exact Tryd.call9) rfl (dec_ParseHex_eq [48, 48, 48, 48, 48, 48, 48, 48, 48, 48, 48, 48, 48, 48, 102, 102] 255 0 aw_unhex) [] [0] (by decide) rfl _ rfl (RoOk.ro 1 rfl [] rfl RoOk.nil)) rfl ?_
  rintro _ _ ⟨_, ⟨rfl, rfl⟩, rfl⟩
  refine O.p (Pu.move rfl) rfl ?_
  refine O.p (Pu.extract rfl rfl) rfl ?_
  refine O.p (Pu.extract rfl rfl) rfl ?_
  refine O.p (Pu.assign rfl) rfl ?_
  refine O.p (Pu.assign rfl) rfl ?_
  refine O.nil ?_
  refine J.seq ?_
  refine J.region ?_
  refine O.l (Lo.call [.int .i64 (-7)] (by exact Tryd.call11) rfl (dec_Text_eq (-7) [45, 55] (by decide) (by decide) it_neg7) [] [0] (by decide) rfl _ rfl (RoOk.ro 0 rfl [] rfl RoOk.nil)) rfl ?_
  rintro _ _ ⟨_, ⟨rfl, rfl⟩, rfl⟩
  refine O.p (Pu.sEql rfl rfl) rfl ?_
  refine O.p (Pu.move rfl) rfl ?_
  refine O.gq (t := 27) rfl rfl (by decide) rfl (Pu.qt (Pu.move rfl)) rfl ?_
  refine O.gq (t := 27) rfl rfl (by decide) rfl (Pu.qt (Pu.eql rfl rfl)) rfl ?_
  refine O.p (Pu.pickT rfl (by decide) rfl) rfl ?_
  refine O.p (Pu.move rfl) rfl ?_
  refine O.gq (t := 31) rfl rfl (by decide) rfl (Pu.qt (Pu.move rfl)) rfl ?_
  refine O.gq (t := 31) rfl rfl (by decide) rfl (Pu.qt (Pu.eql rfl rfl)) rfl ?_
  refine O.p (Pu.pickT rfl (by decide) rfl) rfl ?_
  refine O.p (Pu.move rfl) rfl ?_
  refine O.gq (t := 35) rfl rfl rfl rfl (Pu.qt (Pu.move rfl)) rfl ?_
  refine O.gq (t := 35) rfl rfl rfl rfl (Pu.qt (Pu.eql rfl rfl)) rfl ?_
  refine O.p (Pu.pickT rfl rfl rfl) rfl ?_
  refine O.p (Pu.move rfl) rfl ?_
  refine O.nilRow 3 1 ?_
  refine O.gl (t := 39) rfl rfl rfl rfl (Lo.call [Value.slice none 0 0] (by exact Tryd.call17) rfl (dec_List_nil (.slice none 0 0) [] rfl) [] [0, 1] (by decide) rfl _ rfl (RoOk.of 0 rfl row_rd [] (by decide) rfl RoOk.nil)) rfl ?_
  rintro _ _ ⟨_, ⟨rfl, rfl⟩, rfl⟩
  refine O.gq (t := 39) rfl rfl rfl rfl (Pu.qt (Pu.sEql rfl rfl)) rfl ?_
  refine O.p (Pu.pickT rfl rfl rfl) rfl ?_
  refine O.p (Pu.move rfl) rfl ?_
  refine O.gq (t := 43) rfl rfl (by decide) rfl (Pu.qt (Pu.move rfl)) rfl ?_
  refine O.gl (t := 43) rfl rfl (by decide) rfl (Lo.buildM (s := 1) encZ [3, -1] [(0, .int .i64 3), (1, .int .i64 (-1))] (by exact Tryd.runUnderlying32) (by exact Tryd.sizeOf3) (by exact Tryd.zeroValue3) rfl rfl rfl (by kernel_rfl) rfl rfl) rfl ?_
  rintro V8 _ rfl
  refine O.gl (t := 43) rfl rfl (by decide) rfl (Lo.call [V3, V8] (by exact Tryd.call19) rfl (r01_Same V3 V8 ([3, -1]) (by decide)) [] [0, 1, 2] (by decide) rfl _ rfl (RoOk.of 2 rfl row_rd [] (by decide) rfl (RoOk.of 0 rfl row_rd [] (by decide) rfl RoOk.nil))) rfl ?_
  rintro _ _ ⟨_, ⟨rfl, rfl⟩, rfl⟩
  refine O.p (Pu.pickT rfl (by decide) rfl) rfl ?_
  refine O.p (Pu.move rfl) rfl ?_
  refine O.gq (t := 48) rfl rfl rfl rfl (Pu.qt (Pu.move rfl)) rfl ?_
  refine O.gq (t := 48) rfl rfl rfl rfl (Pu.qt (Pu.eql rfl rfl)) rfl ?_
  refine O.p (Pu.pickT rfl rfl rfl) rfl ?_
  refine O.p (Pu.move rfl) rfl ?_
  refine O.gl (t := 52) rfl rfl rfl rfl (Lo.call [.int .u64 255] (by exact Tryd.call13) rfl (dec_Hex_eq 255 [48, 48, 48, 48, 48, 48, 48, 48, 48, 48, 48, 48, 48, 48, 102, 102] (by decide) aw_hex) [] [0, 1, 2] (by decide) rfl _ rfl (RoOk.ro 1 rfl [] rfl RoOk.nil)) rfl ?_
  rintro _ _ ⟨_, ⟨rfl, rfl⟩, rfl⟩
  refine O.gq (t := 52) rfl rfl rfl rfl (Pu.qt (Pu.sEql rfl rfl)) rfl ?_
  refine O.p (Pu.pickT rfl rfl rfl) rfl ?_
  refine O.p (Pu.move rfl) rfl ?_
  refine O.gq (t := 56) rfl rfl (by decide) rfl (Pu.qt (Pu.move rfl)) rfl ?_
  refine O.gq (t := 56) rfl rfl (by decide) rfl (Pu.qt (Pu.eql rfl rfl)) rfl ?_
  refine O.p (Pu.pickT rfl (by decide) rfl) rfl ?_
  refine O.p (Pu.move rfl) rfl ?_
  refine O.gq (t := 60) rfl rfl (by decide) rfl (Pu.qt (Pu.move rfl)) rfl ?_
  refine O.gq (t := 60) rfl rfl (by decide) rfl (Pu.qt (Pu.eql rfl rfl)) rfl ?_
  refine O.p (Pu.pickT rfl (by decide) rfl) rfl ?_
  refine O.p (Pu.assign rfl) rfl ?_
  refine O.nil ?_
  exact J.ret (Fin.ret (rs := [.tmp 0]) rfl [_] ⟨rfl, trivial⟩ [] (by decide) [] rfl ⟨rfl, rfl⟩)

end Go.Proofs.YtopemccmejgbpaaDoor
