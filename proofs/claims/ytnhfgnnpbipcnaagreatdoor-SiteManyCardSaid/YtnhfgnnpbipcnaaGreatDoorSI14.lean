/-
  Walks, printed by a program of mine (lk.py): each function meets its contract.
-/
import Derived.KernelRfl
import Derived.Test.YtnhfgnnpbipcnaaGreatDoorSI12
import Derived.Test.YtnhfgnnpbipcnaaGreatDoorSI13
import Derived.Test.YtnhfgnnpbipcnaaGreatDoorSI4
import Derived.Test.YtnhfgnnpbipcnaaGreatDoorSiteA
import Derived.Test.YtnhfgnnpbipcnaaGreatDoorLkF
namespace Go.Proofs.YtnhfgnnpbipcnaaGreatDoor
open Go Go.LK Go.Proofs.Tryz
set_option linter.unusedSimpArgs false

set_option maxRecDepth 100000 in
set_option maxHeartbeats 4000000 in
theorem law30_awake  : Tri prog 8 #[] [libW, var 0 (Hx.hexDigits.map valU8) 101, var 1 (Kn.names.map vS) 144] [] (fun v L' => v = .bool true ∧ L' = []) := by
 refine Tri.enter (args := []) (body := _) 58 func8 rfl ntmps8 rfl ?_
 intro w0
 refine J.seq <| J.region <| O.a rfl rfl <| O.nil <| J.seq <| J.region <| O.l (Lo.call [.int .i64 2] (by exact call9) rfl (si_Usual 2 (by decide) (by decide)) [] [] (by decide) rfl [] rfl RoOk.nil) rfl ?_
 rintro _ _ ⟨_, ⟨V1, l1, rfl, hd1, rfl⟩, rfl⟩
 refine O.m rfl rfl <| O.p (Pu.extract rfl rfl) rfl <| O.p (Pu.extract rfl rfl) rfl <| O.l (Lo.alloc [.int .i64 0, .int .i64 0, .int .i64 0, .int .u64 0, Value.slice none 0 0] (by exact zeroValue25) rfl) rfl ?_
 rintro _ _ ⟨g3, rfl, rfl⟩
 refine O.one (Src.row 1 rfl) (fun hV4 => ?_)
 refine O.l0 (Lo.store 0 (vs := [.int .i64 2, .int .i64 4, .int .i64 1000, .int .u64 1, V1]) [.int .i64 2, .int .i64 4, .int .i64 1000, .int .u64 1, V1] rfl rfl rfl (by exact sizeOf25) rfl rfl (by simp only [List.all_cons, List.all_nil, Bool.and_true, hV4] <;> rfl) rfl rfl) ?_
 rintro _ _ rfl
 refine O.a rfl rfl <| O.nil <| J.seq <| J.region <| O.q (Qt.ld rfl (Cel.var 0 rfl) (o := 0) (off := 0) rfl (Cut.agg [.int .i64 2, .int .i64 4, .int .i64 1000, .int .u64 1, V1] isAgg25 sizeOf25 rfl rfl)) rfl <| O.l (Lo.call [.agg #[.int .i64 2, .int .i64 4, .int .i64 1000, .int .u64 1, V1]] (by exact call16) rfl (si_Text 2 4 1000 1 V1 l1 (by have h_ := Si.us_few hd1 (by decide); exact h_.1) (by have h_ := Si.us_few hd1 (by decide); exact h_.2) (Si.us_okS hd1 (by decide)) Si.us_I3 (by decide)) [] [0, 1, 2] (by decide) rfl [var g3 [.int .i64 2, .int .i64 4, .int .i64 1000, .int .u64 1, V1] 25, row V1 47 14 (l1.map Sg.cells), bun (l1.map (Sg.row 50))] rfl (RoOk.ro 0 rfl [] rfl (RoOk.ro 2 rfl [] rfl (RoOk.ro 1 rfl [] rfl (RoOk.of 1 rfl row_rd [] (by decide) rfl (RoOk.of 2 rfl sg_ros [] (by decide) rfl RoOk.nil)))))) rfl ?_
 rintro _ _ ⟨_, ⟨rfl, rfl⟩, rfl⟩
 refine O.l (Lo.call [str (Si.text 2 4 1000 1 l1)] (by exact call19) rfl (si_Parse (Si.text 2 4 1000 1 l1)) [] [0, 1, 2] (by decide) rfl [var g3 [.int .i64 2, .int .i64 4, .int .i64 1000, .int .u64 1, V1] 25, row V1 47 14 (l1.map Sg.cells), bun (l1.map (Sg.row 50))] rfl (RoOk.ro 0 rfl [] rfl (RoOk.ro 1 rfl [] rfl (RoOk.ro 2 rfl [] rfl RoOk.nil)))) rfl ?_
 rintro _ _ ⟨_, ⟨b6, c6, r6, key6, sv6, l6, n6, e6, rfl, hp6, hb6, rfl⟩, rfl⟩
 have hsm6 := Si.same_parse hp6 (Si.us_back hd1 (by decide))
 refine O.m rfl rfl <| O.p (Pu.extract rfl rfl) rfl <| O.p (Pu.extract rfl rfl) rfl <| O.p (Pu.extract rfl rfl) rfl <| O.l (Lo.alloc [.int .i64 0, .int .i64 0, .int .i64 0, .int .u64 0, Value.slice none 0 0] (by exact zeroValue25) rfl) rfl ?_
 rintro _ _ ⟨g8, rfl, rfl⟩
 refine O.one (Src.row 1 rfl) (fun hV9 => ?_)
 refine O.l0 (Lo.store 0 (vs := [.int .i64 b6, .int .i64 c6, .int .i64 r6, .int .u64 (Nat.cast key6 : Int), sv6]) [.int .i64 b6, .int .i64 c6, .int .i64 r6, .int .u64 (Nat.cast key6 : Int), sv6] rfl rfl rfl (by exact sizeOf25) rfl rfl (by simp only [List.all_cons, List.all_nil, Bool.and_true, hV9] <;> rfl) rfl rfl) ?_
 rintro _ _ rfl
 refine O.a rfl rfl <| O.a rfl rfl <| O.nil <| J.seq <| J.region <| O.l (Lo.call [str ([35, 32, 110, 111, 110, 101, 10, 115, 105, 116, 101, 10])] (by exact call19) rfl (si_Parse ([35, 32, 110, 111, 110, 101, 10, 115, 105, 116, 101, 10])) [] [0, 1, 2, 3, 4, 5] (by decide) rfl [var g8 [.int .i64 b6, .int .i64 c6, .int .i64 r6, .int .u64 (Nat.cast key6 : Int), sv6] 25, row sv6 47 14 (l6.map Sg.cells), bun (l6.map (Sg.row 50)), var g3 [.int .i64 2, .int .i64 4, .int .i64 1000, .int .u64 1, V1] 25, row V1 47 14 (l1.map Sg.cells), bun (l1.map (Sg.row 50))] rfl (RoOk.ro 0 rfl [] rfl (RoOk.ro 1 rfl [] rfl (RoOk.ro 2 rfl [] rfl RoOk.nil)))) rfl ?_
 rintro _ _ ⟨_, ⟨b10, c10, r10, key10, sv10, l10, n10, e10, rfl, hp10, hb10, rfl⟩, rfl⟩
 have hsm10 := Si.same_zero hp10 Si.aw_parse
 refine O.m rfl rfl <| O.p (Pu.extract rfl rfl) rfl <| O.p (Pu.extract rfl rfl) rfl <| O.p (Pu.extract rfl rfl) rfl <| O.l (Lo.alloc [.int .i64 0, .int .i64 0, .int .i64 0, .int .u64 0, Value.slice none 0 0] (by exact zeroValue25) rfl) rfl ?_
 rintro _ _ ⟨g12, rfl, rfl⟩
 refine O.one (Src.row 1 rfl) (fun hV13 => ?_)
 refine O.l0 (Lo.store 0 (vs := [.int .i64 b10, .int .i64 c10, .int .i64 r10, .int .u64 (Nat.cast key10 : Int), sv10]) [.int .i64 b10, .int .i64 c10, .int .i64 r10, .int .u64 (Nat.cast key10 : Int), sv10] rfl rfl rfl (by exact sizeOf25) rfl rfl (by simp only [List.all_cons, List.all_nil, Bool.and_true, hV13] <;> rfl) rfl rfl) ?_
 rintro _ _ rfl
 refine O.a rfl rfl <| O.a rfl rfl <| O.nil <| J.seq <| J.region <| O.m rfl rfl <| O.p (Pu.eql rfl rfl) rfl <| O.m rfl rfl <| O.gq (t := 27) rfl rfl rfl rfl (Qt.ld rfl (Cel.var 6 rfl) (o := 0) (off := 0) rfl (Cut.agg [.int .i64 2, .int .i64 4, .int .i64 1000, .int .u64 1, V1] isAgg25 sizeOf25 rfl rfl)) rfl <| O.gl (t := 27) rfl rfl rfl rfl (Lo.call [.agg #[.int .i64 2, .int .i64 4, .int .i64 1000, .int .u64 1, V1]] (by exact call12) rfl (si_Check 2 4 1000 1 V1 l1 (by have h_ := (Si.us_few hd1 (by decide)).1; omega) (fun s_ hs_ => by have h_ := (Si.us_few hd1 (by decide)).2 s_ hs_; omega)) [] [0, 1, 2, 3, 4, 5, 6, 7, 8] (by decide) rfl [var g12 [.int .i64 b10, .int .i64 c10, .int .i64 r10, .int .u64 (Nat.cast key10 : Int), sv10] 25, row sv10 47 14 (l10.map Sg.cells), bun (l10.map (Sg.row 50)), var g8 [.int .i64 b6, .int .i64 c6, .int .i64 r6, .int .u64 (Nat.cast key6 : Int), sv6] 25, row sv6 47 14 (l6.map Sg.cells), bun (l6.map (Sg.row 50)), var g3 [.int .i64 2, .int .i64 4, .int .i64 1000, .int .u64 1, V1] 25, row V1 47 14 (l1.map Sg.cells), bun (l1.map (Sg.row 50))] rfl (RoOk.of 7 rfl row_rd [] (by decide) rfl (RoOk.of 8 rfl sg_ros [] (by decide) rfl RoOk.nil))) rfl ?_
 rintro _ _ ⟨_, ⟨rfl, rfl⟩, rfl⟩
 refine O.gq (t := 27) rfl rfl rfl rfl (Pu.qt (Pu.eql rfl rfl)) rfl <| O.p (Pu.pickT rfl rfl rfl) rfl <| O.m rfl rfl <| O.gq (t := 32) rfl rfl (decide_eq_true (Si.us_chk hd1 (by decide) (by decide))) rfl (Qt.ld rfl (Cel.var 3 rfl) (o := 0) (off := 0) rfl (Cut.agg [.int .i64 b6, .int .i64 c6, .int .i64 r6, .int .u64 (Nat.cast key6 : Int), sv6] isAgg25 sizeOf25 rfl rfl)) rfl <| O.gq (t := 32) rfl rfl (decide_eq_true (Si.us_chk hd1 (by decide) (by decide))) rfl (Qt.ld rfl (Cel.var 6 rfl) (o := 0) (off := 0) rfl (Cut.agg [.int .i64 2, .int .i64 4, .int .i64 1000, .int .u64 1, V1] isAgg25 sizeOf25 rfl rfl)) rfl <| O.gl (t := 32) rfl rfl (decide_eq_true (Si.us_chk hd1 (by decide) (by decide))) rfl (Lo.call [.agg #[.int .i64 b6, .int .i64 c6, .int .i64 r6, .int .u64 (Nat.cast key6 : Int), sv6], .agg #[.int .i64 2, .int .i64 4, .int .i64 1000, .int .u64 1, V1]] (by exact call18) rfl (si_Same b6 c6 r6 key6 sv6 l6 2 4 1000 1 V1 l1 (by have h_ := (hb6).1; omega) (fun s_ hs_ => by have h_ := (hb6).2 s_ hs_; omega) (by have h_ := (Si.us_few hd1 (by decide)).1; omega) (fun s_ hs_ => by have h_ := (Si.us_few hd1 (by decide)).2 s_ hs_; omega)) [] [0, 1, 2, 3, 4, 5, 6, 7, 8] (by decide) rfl [var g12 [.int .i64 b10, .int .i64 c10, .int .i64 r10, .int .u64 (Nat.cast key10 : Int), sv10] 25, row sv10 47 14 (l10.map Sg.cells), bun (l10.map (Sg.row 50)), var g8 [.int .i64 b6, .int .i64 c6, .int .i64 r6, .int .u64 (Nat.cast key6 : Int), sv6] 25, row sv6 47 14 (l6.map Sg.cells), bun (l6.map (Sg.row 50)), var g3 [.int .i64 2, .int .i64 4, .int .i64 1000, .int .u64 1, V1] 25, row V1 47 14 (l1.map Sg.cells), bun (l1.map (Sg.row 50))] rfl (RoOk.of 4 rfl row_rd [] (by decide) rfl (RoOk.of 5 rfl sg_ros [] (by decide) rfl (RoOk.of 7 rfl row_rd [] (by decide) rfl (RoOk.of 8 rfl sg_ros [] (by decide) rfl RoOk.nil))))) rfl ?_
 rintro _ _ ⟨_, ⟨rfl, rfl⟩, rfl⟩
 refine O.p (Pu.pickT rfl (decide_eq_true (Si.us_chk hd1 (by decide) (by decide))) rfl) rfl <| O.m rfl rfl <| O.gq (t := 37) rfl rfl hsm6.1 rfl (Pu.qt (Pu.move rfl)) rfl <| O.gq (t := 37) rfl rfl hsm6.1 rfl (Pu.qt (Pu.eql rfl rfl)) rfl <| O.p (Pu.pickT rfl hsm6.1 rfl) rfl <| O.m rfl rfl <| O.gq (t := 41) rfl rfl (decide_eq_true hsm6.2.1) rfl (Pu.qt (Pu.move rfl)) rfl <| O.gq (t := 41) rfl rfl (decide_eq_true hsm6.2.1) rfl (Pu.qt (Pu.eql rfl rfl)) rfl <| O.p (Pu.pickT rfl (decide_eq_true hsm6.2.1) rfl) rfl <| O.m rfl rfl <| O.gq (t := 45) rfl rfl (decide_eq_true hsm6.2.2) rfl (Pu.qt (Pu.move rfl)) rfl <| O.gq (t := 45) rfl rfl (decide_eq_true hsm6.2.2) rfl (Pu.qt (Pu.eql rfl rfl)) rfl ?_
 refine O.p (Pu.pickT rfl (decide_eq_true hsm6.2.2) rfl) rfl <| O.m rfl rfl <| O.gq (t := 49) rfl rfl (decide_eq_true hsm10.2.1) rfl (Pu.qt (Pu.move rfl)) rfl <| O.gq (t := 49) rfl rfl (decide_eq_true hsm10.2.1) rfl (Pu.qt (Pu.eql rfl rfl)) rfl <| O.p (Pu.pickT rfl (decide_eq_true hsm10.2.1) rfl) rfl <| O.m rfl rfl <| O.gq (t := 53) rfl rfl (decide_eq_true hsm10.2.2) rfl (Qt.ld rfl (Cel.var 6 rfl) (o := 0) (off := 0) rfl (Cut.agg [.int .i64 2, .int .i64 4, .int .i64 1000, .int .u64 1, V1] isAgg25 sizeOf25 rfl rfl)) rfl <| O.gl (t := 53) rfl rfl (decide_eq_true hsm10.2.2) rfl (Lo.call [.agg #[.int .i64 2, .int .i64 4, .int .i64 1000, .int .u64 1, V1]] (by exact call14) rfl (si_Levels 2 4 1000 1 V1 l1) [] [0, 1, 2, 3, 4, 5, 6, 7, 8] (by decide) rfl [var g12 [.int .i64 b10, .int .i64 c10, .int .i64 r10, .int .u64 (Nat.cast key10 : Int), sv10] 25, row sv10 47 14 (l10.map Sg.cells), bun (l10.map (Sg.row 50)), var g8 [.int .i64 b6, .int .i64 c6, .int .i64 r6, .int .u64 (Nat.cast key6 : Int), sv6] 25, row sv6 47 14 (l6.map Sg.cells), bun (l6.map (Sg.row 50)), var g3 [.int .i64 2, .int .i64 4, .int .i64 1000, .int .u64 1, V1] 25, row V1 47 14 (l1.map Sg.cells), bun (l1.map (Sg.row 50))] rfl (RoOk.of 7 rfl row_rd [] (by decide) rfl (RoOk.of 8 rfl sg_ros [] (by decide) rfl RoOk.nil))) rfl ?_
 rintro _ _ ⟨_, ⟨rfl, rfl⟩, rfl⟩
 refine O.gq (t := 53) rfl rfl (decide_eq_true hsm10.2.2) rfl (Pu.qt (Pu.eql rfl rfl)) rfl <| O.p (Pu.pickT rfl (decide_eq_true hsm10.2.2) rfl) rfl <| O.a rfl rfl <| O.nil ?_
 exact J.ret (Fin.ret (rs := [.tmp 0]) rfl [_] ⟨rfl, trivial⟩ [] (by decide) [] rfl ⟨rfl, rfl⟩)

end Go.Proofs.YtnhfgnnpbipcnaaGreatDoor
