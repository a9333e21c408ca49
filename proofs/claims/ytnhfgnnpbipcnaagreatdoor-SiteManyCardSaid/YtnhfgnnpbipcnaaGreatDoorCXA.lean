/-
  Several texts in one: CX1, CX2.
-/
import Derived.KernelRfl
import Derived.Test.YtnhfgnnpbipcnaaGreatDoorKX2
import Derived.Test.YtnhfgnnpbipcnaaGreatDoorConfA
import Derived.Test.YtnhfgnnpbipcnaaGreatDoorLkD
namespace Go.Proofs.YtnhfgnnpbipcnaaGreatDoor
open Go Go.LK Go.Proofs.Tryz
set_option linter.unusedSimpArgs false

set_option maxRecDepth 100000 in
theorem cf_heads  : Tri prog 70 #[] [var 1 (Kn.names.map vS) 144] [] (fun v L' => L' = [row v 9 1 (Cf.heads.map encS)]) := by
 refine Tri.enter (args := []) (body := _) 4 func70 rfl ntmps70 rfl ?_
 intro w0
 refine J.seq <| J.region <| O.a rfl rfl <| O.nil <| J.seq <| J.region <| O.l (Lo.buildM (s := 1) encS [[119, 111, 114, 107, 101, 114, 115], [113, 117, 101, 117, 101], [119, 105, 110, 100, 111, 119], [116, 105, 101, 114, 115], [115, 101, 101, 110], [116, 116, 108]] [(0, str ([119, 111, 114, 107, 101, 114, 115])), (1, str ([113, 117, 101, 117, 101])), (2, str ([119, 105, 110, 100, 111, 119])), (3, str ([116, 105, 101, 114, 115])), (4, str ([115, 101, 101, 110])), (5, str ([116, 116, 108]))] (by exact runUnderlying72) (by exact sizeOf9) (by exact zeroValue9) rfl rfl rfl (by kernel_rfl) rfl rfl) rfl ?_
 rintro V1 _ rfl
 refine O.l (Lo.call [] (by exact call104) rfl kn_Names [] [0] (by decide) rfl [row V1 9 1 (([[119, 111, 114, 107, 101, 114, 115], [113, 117, 101, 117, 101], [119, 105, 110, 100, 111, 119], [116, 105, 101, 114, 115], [115, 101, 101, 110], [116, 116, 108]]).map encS)] rfl (RoOk.ro 0 rfl [] rfl RoOk.nil)) rfl ?_
 rintro v2 _ ⟨_, rfl, rfl⟩
 refine O.l (Lo.appendM (s := 1) 1 (by exact underlying72) (by exact (info9).1) (by exact (info9).2.1) (by exact (info9).2.2.1) (by exact (info9).2.2.2) rfl rfl rfl rfl rfl (Src.row 0 rfl) encS.one (by decide) (by decide)) rfl ?_
 rintro V3 _ rfl
 refine O.a rfl rfl <| O.nil ?_
 exact J.ret (Fin.ret (rs := [.tmp 0]) rfl [_] ⟨rfl, trivial⟩ [1] (by decide) [row V3 9 1 ((([[119, 111, 114, 107, 101, 114, 115], [113, 117, 101, 117, 101], [119, 105, 110, 100, 111, 119], [116, 105, 101, 114, 115], [115, 101, 101, 110], [116, 116, 108]]) ++ Kn.names).map encS)] rfl rfl)

set_option maxRecDepth 100000 in
theorem cf_tails  : Tri prog 72 #[] [] [] (fun v L' => L' = [row v 9 1 (Cf.tails.map encS)]) := by
 refine Tri.enter (args := []) (body := _) 2 func72 rfl ntmps72 rfl ?_
 intro w0
 refine J.seq <| J.region <| O.a rfl rfl <| O.nil <| J.seq <| J.region <| O.l (Lo.buildM (s := 1) encS [[116, 111], [116, 105, 101, 114], [119, 101, 105, 103, 104, 116], [109, 111, 115, 116]] [(0, str ([116, 111])), (1, str ([116, 105, 101, 114])), (2, str ([119, 101, 105, 103, 104, 116])), (3, str ([109, 111, 115, 116]))] (by exact runUnderlying72) (by exact sizeOf9) (by exact zeroValue9) rfl rfl rfl (by kernel_rfl) rfl rfl) rfl ?_
 rintro V1 _ rfl
 refine O.a rfl rfl <| O.nil ?_
 exact J.ret (Fin.ret (rs := [.tmp 0]) rfl [_] ⟨rfl, trivial⟩ [0] (by decide) [row V1 9 1 (([[116, 111], [116, 105, 101, 114], [119, 101, 105, 103, 104, 116], [109, 111, 115, 116]]).map encS)] rfl rfl)

set_option maxRecDepth 100000 in
theorem cf_numbers (x0 x1 x2 x3 x4 x5 x6 x7 x8 x9 x10 x11 x12 : Int) (cv : Value) (cs : List Cl) : Tri prog 71 #[.agg #[.int .i64 x0, .int .i64 x1, .int .i64 x2, .int .i64 x3, .int .i64 x4, .int .i64 x5, .int .i64 x6, .int .i64 x7, .int .i64 x8, .int .i64 x9, .int .i64 x10, .int .i64 x11, .int .i64 x12, cv]] [rd cv 4 (cs.map Cl.cells)] [] (fun v L' => L' = [row v 3 1 ([x0, x1, x2, x3, x4, x5, x6, x7, x8, x9, x10, x11, x12].map encZ)]) := by
 refine Tri.enter (args := [.agg #[.int .i64 x0, .int .i64 x1, .int .i64 x2, .int .i64 x3, .int .i64 x4, .int .i64 x5, .int .i64 x6, .int .i64 x7, .int .i64 x8, .int .i64 x9, .int .i64 x10, .int .i64 x11, .int .i64 x12, cv]]) (body := _) 20 func71 rfl ntmps71 rfl ?_
 intro w0
 refine J.seq <| J.region ?_
 refine O.one (Src.ro 0 rfl) (fun hV2 => ?_)
 refine O.l (Lo.box [.int .i64 x0, .int .i64 x1, .int .i64 x2, .int .i64 x3, .int .i64 x4, .int .i64 x5, .int .i64 x6, .int .i64 x7, .int .i64 x8, .int .i64 x9, .int .i64 x10, .int .i64 x11, .int .i64 x12, cv] rfl rfl) rfl ?_
 rintro _ _ ⟨g1, rfl, rfl⟩
 refine O.a rfl rfl <| O.nil <| J.seq <| J.drawA Tryz.mixed ?_
 refine A.edge 12 15 rfl ?_ ?_
 ·
  refine A.mix [(0, false), (1, false), (2, false), (3, false), (4, false), (5, false), (6, false), (7, false), (8, false), (9, false), (10, false), (11, false), (13, false), (14, false), (15, true), (12, true), (16, true), (17, false)] [0] [var g1 [.int .i64 x0, .int .i64 x1, .int .i64 x2, .int .i64 x3, .int .i64 x4, .int .i64 x5, .int .i64 x6, .int .i64 x7, .int .i64 x8, .int .i64 x9, .int .i64 x10, .int .i64 x11, .int .i64 x12, cv] 47] (by kernel_rfl) (by decide) rfl <| Mx.p rfl (Pu.fieldAddr (off' := 0) runUnderlying47 rfl sizeOf3 rfl rfl rfl) rfl <| Mx.q rfl (Qt.ld rfl (Cel.var 0 rfl) (o := 0) (off := 0) rfl (Cut.one isAgg3 rfl)) rfl <| Mx.p rfl (Pu.fieldAddr (off' := 1) runUnderlying47 rfl sizeOf3 rfl rfl rfl) rfl <| Mx.q rfl (Qt.ld rfl (Cel.var 0 rfl) (o := 0) (off := 1) rfl (Cut.one isAgg3 rfl)) rfl <| Mx.p rfl (Pu.fieldAddr (off' := 2) runUnderlying47 rfl sizeOf3 rfl rfl rfl) rfl <| Mx.q rfl (Qt.ld rfl (Cel.var 0 rfl) (o := 0) (off := 2) rfl (Cut.one isAgg3 rfl)) rfl <| Mx.p rfl (Pu.fieldAddr (off' := 3) runUnderlying47 rfl sizeOf3 rfl rfl rfl) rfl <| Mx.q rfl (Qt.ld rfl (Cel.var 0 rfl) (o := 0) (off := 3) rfl (Cut.one isAgg3 rfl)) rfl <| Mx.p rfl (Pu.fieldAddr (off' := 4) runUnderlying47 rfl sizeOf3 rfl rfl rfl) rfl <| Mx.q rfl (Qt.ld rfl (Cel.var 0 rfl) (o := 0) (off := 4) rfl (Cut.one isAgg3 rfl)) rfl <| Mx.p rfl (Pu.fieldAddr (off' := 5) runUnderlying47 rfl sizeOf3 rfl rfl rfl) rfl ?_
  refine Mx.q rfl (Qt.ld rfl (Cel.var 0 rfl) (o := 0) (off := 5) rfl (Cut.one isAgg3 rfl)) rfl <| Mx.p rfl (Pu.fieldAddr (off' := 6) runUnderlying47 rfl sizeOf44 rfl rfl rfl) rfl <| Mx.q rfl (Qt.ld rfl (Cel.var 0 rfl) (o := 0) (off := 6) rfl (Cut.agg [.int .i64 x6, .int .i64 x7, .int .i64 x8, .int .i64 x9, .int .i64 x10, .int .i64 x11, .int .i64 x12] isAgg44 sizeOf44 rfl rfl)) rfl <| Mx.l rfl (Lo.call [.agg #[.int .i64 x6, .int .i64 x7, .int .i64 x8, .int .i64 x9, .int .i64 x10, .int .i64 x11, .int .i64 x12]] (by exact call105) rfl (kn_Values x6 x7 x8 x9 x10 x11 x12) [] [0] (by decide) rfl [var g1 [.int .i64 x0, .int .i64 x1, .int .i64 x2, .int .i64 x3, .int .i64 x4, .int .i64 x5, .int .i64 x6, .int .i64 x7, .int .i64 x8, .int .i64 x9, .int .i64 x10, .int .i64 x11, .int .i64 x12, cv] 47] rfl RoOk.nil) rfl ?_
  rintro v3 _ ⟨_, rfl, rfl⟩
  refine MxK.go [1] [0] [var g1 [.int .i64 x0, .int .i64 x1, .int .i64 x2, .int .i64 x3, .int .i64 x4, .int .i64 x5, .int .i64 x6, .int .i64 x7, .int .i64 x8, .int .i64 x9, .int .i64 x10, .int .i64 x11, .int .i64 x12, cv] 47] (by decide) rfl (by decide) rfl <| Mx.l rfl (Lo.buildM (s := 1) encZ [x0, x1, x2, x3, x4, x5] [(0, .int .i64 x0), (1, .int .i64 x1), (2, .int .i64 x2), (3, .int .i64 x3), (4, .int .i64 x4), (5, .int .i64 x5)] (by exact runUnderlying53) (by exact sizeOf3) (by exact zeroValue3) rfl rfl rfl (by kernel_rfl) rfl rfl) rfl ?_
  rintro V4 _ rfl
  refine MxK.all [2] [var g1 [.int .i64 x0, .int .i64 x1, .int .i64 x2, .int .i64 x3, .int .i64 x4, .int .i64 x5, .int .i64 x6, .int .i64 x7, .int .i64 x8, .int .i64 x9, .int .i64 x10, .int .i64 x11, .int .i64 x12, cv] 47] (by decide) rfl (by kernel_rfl) <| Mx.l rfl (Lo.appendM (s := 1) 0 (by exact underlying53) (by exact (info3).1) (by exact (info3).2.1) (by exact (info3).2.2.1) (by exact (info3).2.2.2) rfl rfl rfl rfl rfl (Src.row 1 rfl) encZ.one (by first | decide | (simp only [List.length_cons, List.length_nil]; omega)) (by first | decide | (simp only [List.length_cons, List.length_nil]; omega))) rfl ?_
  rintro V5 _ rfl
  refine MxK.all [2] [var g1 [.int .i64 x0, .int .i64 x1, .int .i64 x2, .int .i64 x3, .int .i64 x4, .int .i64 x5, .int .i64 x6, .int .i64 x7, .int .i64 x8, .int .i64 x9, .int .i64 x10, .int .i64 x11, .int .i64 x12, cv] 47] (by decide) rfl (by kernel_rfl) <| Mx.p rfl (Pu.assign rfl) rfl <| Mx.nil ?_
  exact J.ret (Fin.ret (rs := [.tmp 2]) rfl [_] ⟨rfl, trivial⟩ [0] (by decide) [row V5 3 1 ((([x0, x1, x2, x3, x4, x5]) ++ ([x6, x7, x8, x9, x10, x11, x12])).map encZ)] rfl rfl)
 ·
  refine A.mix [(0, false), (1, false), (2, false), (3, false), (4, false), (5, false), (6, false), (7, false), (8, false), (9, false), (10, false), (11, false), (13, false), (14, false), (12, true), (15, true), (16, true), (17, false)] [0] [var g1 [.int .i64 x0, .int .i64 x1, .int .i64 x2, .int .i64 x3, .int .i64 x4, .int .i64 x5, .int .i64 x6, .int .i64 x7, .int .i64 x8, .int .i64 x9, .int .i64 x10, .int .i64 x11, .int .i64 x12, cv] 47] (by kernel_rfl) (by decide) rfl <| Mx.p rfl (Pu.fieldAddr (off' := 0) runUnderlying47 rfl sizeOf3 rfl rfl rfl) rfl <| Mx.q rfl (Qt.ld rfl (Cel.var 0 rfl) (o := 0) (off := 0) rfl (Cut.one isAgg3 rfl)) rfl <| Mx.p rfl (Pu.fieldAddr (off' := 1) runUnderlying47 rfl sizeOf3 rfl rfl rfl) rfl <| Mx.q rfl (Qt.ld rfl (Cel.var 0 rfl) (o := 0) (off := 1) rfl (Cut.one isAgg3 rfl)) rfl <| Mx.p rfl (Pu.fieldAddr (off' := 2) runUnderlying47 rfl sizeOf3 rfl rfl rfl) rfl <| Mx.q rfl (Qt.ld rfl (Cel.var 0 rfl) (o := 0) (off := 2) rfl (Cut.one isAgg3 rfl)) rfl <| Mx.p rfl (Pu.fieldAddr (off' := 3) runUnderlying47 rfl sizeOf3 rfl rfl rfl) rfl <| Mx.q rfl (Qt.ld rfl (Cel.var 0 rfl) (o := 0) (off := 3) rfl (Cut.one isAgg3 rfl)) rfl <| Mx.p rfl (Pu.fieldAddr (off' := 4) runUnderlying47 rfl sizeOf3 rfl rfl rfl) rfl <| Mx.q rfl (Qt.ld rfl (Cel.var 0 rfl) (o := 0) (off := 4) rfl (Cut.one isAgg3 rfl)) rfl <| Mx.p rfl (Pu.fieldAddr (off' := 5) runUnderlying47 rfl sizeOf3 rfl rfl rfl) rfl ?_
  refine Mx.q rfl (Qt.ld rfl (Cel.var 0 rfl) (o := 0) (off := 5) rfl (Cut.one isAgg3 rfl)) rfl <| Mx.p rfl (Pu.fieldAddr (off' := 6) runUnderlying47 rfl sizeOf44 rfl rfl rfl) rfl <| Mx.q rfl (Qt.ld rfl (Cel.var 0 rfl) (o := 0) (off := 6) rfl (Cut.agg [.int .i64 x6, .int .i64 x7, .int .i64 x8, .int .i64 x9, .int .i64 x10, .int .i64 x11, .int .i64 x12] isAgg44 sizeOf44 rfl rfl)) rfl <| Mx.l rfl (Lo.buildM (s := 1) encZ [x0, x1, x2, x3, x4, x5] [(0, .int .i64 x0), (1, .int .i64 x1), (2, .int .i64 x2), (3, .int .i64 x3), (4, .int .i64 x4), (5, .int .i64 x5)] (by exact runUnderlying53) (by exact sizeOf3) (by exact zeroValue3) rfl rfl rfl (by kernel_rfl) rfl rfl) rfl ?_
  rintro V6 _ rfl
  refine MxK.go [1] [0] [var g1 [.int .i64 x0, .int .i64 x1, .int .i64 x2, .int .i64 x3, .int .i64 x4, .int .i64 x5, .int .i64 x6, .int .i64 x7, .int .i64 x8, .int .i64 x9, .int .i64 x10, .int .i64 x11, .int .i64 x12, cv] 47] (by decide) rfl (by decide) rfl <| Mx.l rfl (Lo.call [.agg #[.int .i64 x6, .int .i64 x7, .int .i64 x8, .int .i64 x9, .int .i64 x10, .int .i64 x11, .int .i64 x12]] (by exact call105) rfl (kn_Values x6 x7 x8 x9 x10 x11 x12) [] [0, 1] (by decide) rfl [row V6 3 1 (([x0, x1, x2, x3, x4, x5]).map encZ), var g1 [.int .i64 x0, .int .i64 x1, .int .i64 x2, .int .i64 x3, .int .i64 x4, .int .i64 x5, .int .i64 x6, .int .i64 x7, .int .i64 x8, .int .i64 x9, .int .i64 x10, .int .i64 x11, .int .i64 x12, cv] 47] rfl RoOk.nil) rfl ?_
  rintro v7 _ ⟨_, rfl, rfl⟩
  refine MxK.all [2] [var g1 [.int .i64 x0, .int .i64 x1, .int .i64 x2, .int .i64 x3, .int .i64 x4, .int .i64 x5, .int .i64 x6, .int .i64 x7, .int .i64 x8, .int .i64 x9, .int .i64 x10, .int .i64 x11, .int .i64 x12, cv] 47] (by decide) rfl (by kernel_rfl) <| Mx.l rfl (Lo.appendM (s := 1) 1 (by exact underlying53) (by exact (info3).1) (by exact (info3).2.1) (by exact (info3).2.2.1) (by exact (info3).2.2.2) rfl rfl rfl rfl rfl (Src.row 0 rfl) encZ.one (by first | decide | (simp only [List.length_cons, List.length_nil]; omega)) (by first | decide | (simp only [List.length_cons, List.length_nil]; omega))) rfl ?_
  rintro V8 _ rfl
  refine MxK.all [2] [var g1 [.int .i64 x0, .int .i64 x1, .int .i64 x2, .int .i64 x3, .int .i64 x4, .int .i64 x5, .int .i64 x6, .int .i64 x7, .int .i64 x8, .int .i64 x9, .int .i64 x10, .int .i64 x11, .int .i64 x12, cv] 47] (by decide) rfl (by kernel_rfl) <| Mx.p rfl (Pu.assign rfl) rfl <| Mx.nil ?_
  exact J.ret (Fin.ret (rs := [.tmp 2]) rfl [_] ⟨rfl, trivial⟩ [1] (by decide) [row V8 3 1 ((([x0, x1, x2, x3, x4, x5]) ++ ([x6, x7, x8, x9, x10, x11, x12])).map encZ)] rfl rfl)

set_option maxRecDepth 100000 in
theorem r28_numbers (x0 x1 x2 x3 x4 x5 x6 x7 x8 x9 x10 x11 x12 : Int) (cv : Value) (cs : List Cl) : Tri prog 55 #[.agg #[.int .i64 x0, .int .i64 x1, .int .i64 x2, .int .i64 x3, .int .i64 x4, .int .i64 x5, .int .i64 x6, .int .i64 x7, .int .i64 x8, .int .i64 x9, .int .i64 x10, .int .i64 x11, .int .i64 x12, cv]] [rd cv 4 (cs.map Cl.cells)] [] (fun v L' => L' = [row v 3 1 ([x0, x1, x2, x3, x4, x5, x6, x7, x8, x9, x10, x11, x12].map encZ)]) := by
 refine Tri.enter (args := [.agg #[.int .i64 x0, .int .i64 x1, .int .i64 x2, .int .i64 x3, .int .i64 x4, .int .i64 x5, .int .i64 x6, .int .i64 x7, .int .i64 x8, .int .i64 x9, .int .i64 x10, .int .i64 x11, .int .i64 x12, cv]]) (body := _) 22 func55 rfl ntmps55 rfl ?_
 intro w0
 refine J.seq <| J.region ?_
 refine O.one (Src.ro 0 rfl) (fun hV2 => ?_)
 refine O.l (Lo.box [.int .i64 x0, .int .i64 x1, .int .i64 x2, .int .i64 x3, .int .i64 x4, .int .i64 x5, .int .i64 x6, .int .i64 x7, .int .i64 x8, .int .i64 x9, .int .i64 x10, .int .i64 x11, .int .i64 x12, cv] rfl rfl) rfl ?_
 rintro _ _ ⟨g1, rfl, rfl⟩
 refine O.a rfl rfl <| O.nil <| J.seq <| J.region <| O.p (Pu.fieldAddr (off' := 0) runUnderlying47 rfl sizeOf3 rfl rfl rfl) rfl <| O.q (Qt.ld rfl (Cel.var 0 rfl) (o := 0) (off := 0) rfl (Cut.one isAgg3 rfl)) rfl <| O.p (Pu.fieldAddr (off' := 1) runUnderlying47 rfl sizeOf3 rfl rfl rfl) rfl <| O.q (Qt.ld rfl (Cel.var 0 rfl) (o := 0) (off := 1) rfl (Cut.one isAgg3 rfl)) rfl <| O.p (Pu.fieldAddr (off' := 2) runUnderlying47 rfl sizeOf3 rfl rfl rfl) rfl <| O.q (Qt.ld rfl (Cel.var 0 rfl) (o := 0) (off := 2) rfl (Cut.one isAgg3 rfl)) rfl <| O.p (Pu.fieldAddr (off' := 3) runUnderlying47 rfl sizeOf3 rfl rfl rfl) rfl <| O.q (Qt.ld rfl (Cel.var 0 rfl) (o := 0) (off := 3) rfl (Cut.one isAgg3 rfl)) rfl ?_
 refine O.p (Pu.fieldAddr (off' := 4) runUnderlying47 rfl sizeOf3 rfl rfl rfl) rfl <| O.q (Qt.ld rfl (Cel.var 0 rfl) (o := 0) (off := 4) rfl (Cut.one isAgg3 rfl)) rfl <| O.p (Pu.fieldAddr (off' := 5) runUnderlying47 rfl sizeOf3 rfl rfl rfl) rfl <| O.q (Qt.ld rfl (Cel.var 0 rfl) (o := 0) (off := 5) rfl (Cut.one isAgg3 rfl)) rfl <| O.l (Lo.buildM (s := 1) encZ [x0, x1, x2, x3, x4, x5] [(0, .int .i64 x0), (1, .int .i64 x1), (2, .int .i64 x2), (3, .int .i64 x3), (4, .int .i64 x4), (5, .int .i64 x5)] (by exact runUnderlying53) (by exact sizeOf3) (by exact zeroValue3) rfl rfl rfl (by kernel_rfl) rfl rfl) rfl ?_
 rintro V3 _ rfl
 refine O.a rfl rfl <| O.nil <| J.seq <| J.region <| O.m rfl rfl <| O.p (Pu.fieldAddr (off' := 6) runUnderlying47 rfl sizeOf44 rfl rfl rfl) rfl <| O.q (Qt.ld rfl (Cel.var 1 rfl) (o := 0) (off := 6) rfl (Cut.agg [.int .i64 x6, .int .i64 x7, .int .i64 x8, .int .i64 x9, .int .i64 x10, .int .i64 x11, .int .i64 x12] isAgg44 sizeOf44 rfl rfl)) rfl <| O.l (Lo.call [.agg #[.int .i64 x6, .int .i64 x7, .int .i64 x8, .int .i64 x9, .int .i64 x10, .int .i64 x11, .int .i64 x12]] (by exact call92) rfl (r18_Values x6 x7 x8 x9 x10 x11 x12) [] [0, 1] (by decide) rfl [row V3 3 1 (([x0, x1, x2, x3, x4, x5]).map encZ), var g1 [.int .i64 x0, .int .i64 x1, .int .i64 x2, .int .i64 x3, .int .i64 x4, .int .i64 x5, .int .i64 x6, .int .i64 x7, .int .i64 x8, .int .i64 x9, .int .i64 x10, .int .i64 x11, .int .i64 x12, cv] 47] rfl RoOk.nil) rfl ?_
 rintro v4 _ ⟨_, rfl, rfl⟩
 refine O.l (Lo.appendM (s := 1) 1 (by exact underlying53) (by exact (info3).1) (by exact (info3).2.1) (by exact (info3).2.2.1) (by exact (info3).2.2.2) rfl rfl rfl rfl rfl (Src.row 0 rfl) encZ.one (by first | decide | (simp only [List.length_cons, List.length_nil]; omega)) (by first | decide | (simp only [List.length_cons, List.length_nil]; omega))) rfl ?_
 rintro V5 _ rfl
 refine O.a rfl rfl <| O.nil ?_
 exact J.ret (Fin.ret (rs := [.tmp 2]) rfl [_] ⟨rfl, trivial⟩ [1] (by decide) [row V5 3 1 ((([x0, x1, x2, x3, x4, x5]) ++ ([x6, x7, x8, x9, x10, x11, x12])).map encZ)] rfl rfl)

set_option maxRecDepth 100000 in
theorem sl_HasPrefix (s p : List UInt8) : Tri prog 127 #[str s, str p] [] [] (fun v L' => v = .bool (Cf.hasP p s) ∧ L' = []) := by
 refine Tri.enter (args := [str s, str p]) (body := _) 18 func127 rfl ntmps127 rfl ?_
 intro w0
 refine J.seq <| J.region <| O.a rfl rfl <| O.nil <| J.seq <| J.region <| O.m rfl rfl <| O.p (Pu.sLen runUnderlying9 rfl) rfl <| O.m rfl rfl <| O.p (Pu.sLen runUnderlying9 rfl) rfl <| O.p (Pu.geq rfl rfl) rfl <| O.m rfl rfl ?_
 refine by_bool (decide ((p.length : Int) ≤ (s.length : Int))) (fun h1 => ?_) (fun h1 => ?_)
 ·
  have p2 := of_decide_eq_true h1
  refine O.gq (t := 10) rfl rfl h1 rfl (Pu.qt (Pu.move rfl)) rfl <| O.gq (t := 10) rfl rfl h1 rfl (Pu.qt (Pu.move rfl)) rfl <| O.gq (t := 10) rfl rfl h1 rfl (Pu.qt (Pu.sLen runUnderlying9 rfl)) rfl <| O.gq (t := 10) rfl rfl h1 rfl (Pu.qt (Pu.sHead runUnderlying9 rfl rfl (by first | omega | (simp only [List.length_append, List.length_cons, List.length_nil, List.length_set]; omega)) (by first | omega | (simp only [List.length_append, List.length_cons, List.length_nil, List.length_set]; omega)))) rfl <| O.gq (t := 10) rfl rfl h1 rfl (Pu.qt (Pu.move rfl)) rfl <| O.gq (t := 10) rfl rfl h1 rfl (Pu.qt (Pu.sEql rfl rfl)) rfl <| O.p (Pu.pickT rfl h1 rfl) rfl <| O.a rfl rfl <| O.nil ?_
  exact J.ret (Fin.ret (rs := [.tmp 4]) rfl [_] ⟨rfl, trivial⟩ [] (by decide) [] rfl ⟨(by first | (rw [Cf.hasP_of (by omega), ← Int.toNat_natCast p.length]; rfl) | (rw [Cf.hasP_short (by omega)]; rfl)), rfl⟩)
 ·
  have p3 := of_decide_eq_false h1
  refine O.gskip (t := 10) rfl rfl (no_bool (by rw [h1]; decide)) rfl rfl <| O.gskip (t := 10) rfl rfl (no_bool (by rw [h1]; decide)) rfl rfl <| O.gskip (t := 10) rfl rfl (no_bool (by rw [h1]; decide)) rfl rfl <| O.gskip (t := 10) rfl rfl (no_bool (by rw [h1]; decide)) rfl rfl <| O.gskip (t := 10) rfl rfl (no_bool (by rw [h1]; decide)) rfl rfl <| O.gskip (t := 10) rfl rfl (no_bool (by rw [h1]; decide)) rfl rfl <| O.p (Pu.pickF rfl h1 rfl) rfl <| O.a rfl rfl <| O.nil ?_
  exact J.ret (Fin.ret (rs := [.tmp 4]) rfl [_] ⟨rfl, trivial⟩ [] (by decide) [] rfl ⟨(by first | (rw [Cf.hasP_of (by omega), ← Int.toNat_natCast p.length]; rfl) | (rw [Cf.hasP_short (by omega)]; rfl)), rfl⟩)

set_option maxRecDepth 100000 in
theorem sl_CutPrefix (s p : List UInt8) : Tri prog 122 #[str s, str p] [] [] (fun v L' => v = .tuple #[str (Cf.cutPre s p).1, .bool (Cf.cutPre s p).2] ∧ L' = []) := by
 refine Tri.enter (args := [str s, str p]) (body := _) 15 func122 rfl ntmps122 rfl ?_
 intro w0
 refine J.seq <| J.region <| O.a rfl rfl <| O.a rfl rfl <| O.nil <| J.seq <| J.seq <| J.region <| O.m rfl rfl <| O.m rfl rfl <| O.l (Lo.call [str s, str p] (by exact call127) rfl (sl_HasPrefix s p) [] [] (by decide) rfl [] rfl RoOk.nil) rfl ?_
 rintro _ _ ⟨_, ⟨rfl, rfl⟩, rfl⟩
 refine O.p (Pu.not rfl) rfl <| O.nil ?_
 refine J.cond rfl (fun h2 => ?_) (fun h2 => ?_)
 ·
  have h3 : (Cf.hasP p s) = false := not_flip h2
  refine J.seq <| J.region <| O.m rfl rfl <| O.a rfl rfl <| O.a rfl rfl <| O.nil ?_
  exact J.ret (Fin.ret (rs := [.tmp 4, .tmp 5]) rfl [_, _] ⟨rfl, rfl, trivial⟩ [] (by decide) [] rfl ⟨(by first | (rw [Cf.cutPre_no ‹_›]; rfl) | (rw [Cf.cutPre_yes ‹_›]; rfl)), rfl⟩)
 ·
  have h4 : (Cf.hasP p s) = true := not_flip h2
  refine J.skip <| J.seq <| J.region <| O.m rfl rfl <| O.m rfl rfl <| O.p (Pu.sLen runUnderlying9 rfl) rfl <| O.p (Pu.sTail runUnderlying9 rfl rfl (by first | omega | (have h_ := Cf.hasP_len ‹_›; omega)) (by first | omega | (have h_ := Cf.hasP_len ‹_›; omega))) rfl <| O.a rfl rfl <| O.a rfl rfl <| O.nil ?_
  exact J.ret (Fin.ret (rs := [.tmp 4, .tmp 5]) rfl [_, _] ⟨rfl, rfl, trivial⟩ [] (by decide) [] rfl ⟨(by first | (rw [Cf.cutPre_no ‹_›]; rfl) | (rw [Cf.cutPre_yes ‹_›]; rfl)), rfl⟩)

set_option maxRecDepth 100000 in
theorem s_CutPrefix (s p : List UInt8) : Tri prog 109 #[str s, str p] [] [] (fun v L' => v = .tuple #[str (Cf.cutPre s p).1, .bool (Cf.cutPre s p).2] ∧ L' = []) := by
 refine Tri.enter (args := [str s, str p]) (body := _) 11 func109 rfl ntmps109 rfl ?_
 intro w0
 refine J.seq <| J.region <| O.a rfl rfl <| O.a rfl rfl <| O.nil <| J.seq <| J.region <| O.m rfl rfl <| O.m rfl rfl <| O.l (Lo.call [str s, str p] (by exact call122) rfl (sl_CutPrefix s p) [] [] (by decide) rfl [] rfl RoOk.nil) rfl ?_
 rintro _ _ ⟨_, ⟨rfl, rfl⟩, rfl⟩
 refine O.p (Pu.extract rfl rfl) rfl <| O.p (Pu.extract rfl rfl) rfl <| O.a rfl rfl <| O.a rfl rfl <| O.nil ?_
 exact J.ret (Fin.ret (rs := [.tmp 4, .tmp 5]) rfl [_, _] ⟨rfl, rfl, trivial⟩ [] (by decide) [] rfl ⟨rfl, rfl⟩)

set_option maxRecDepth 100000 in
theorem cf_Row (word : Wd.Bs) (nv : Value) (ns : List Wd.Bs) (lv : Value) (l : List Int) (hw : word.length ≤ 60000) (hns : ∀ x ∈ ns, x.length ≤ 60000) (hn : ns.length ≤ 900) (hl : l.length ≤ 900) (hI : Kn.I64s l) : Tri prog 36 #[str word, nv, lv] [libW, rd nv 1 (ns.map encS), rd lv 1 (l.map encZ)] [] (fun v L' => v = str (Cf.row word ns l) ∧ L' = []) := by
 refine Tri.enter (args := [str word, nv, lv]) (body := _) 36 func36 rfl ntmps36 rfl ?_
 intro w0
 refine J.seq <| J.region <| O.a rfl rfl <| O.nil <| J.seq <| J.region <| O.m rfl rfl <| O.l (Lo.buildM (s := 1) encS [word] [(0, str word)] (by exact runUnderlying72) (by exact sizeOf9) (by exact zeroValue9) rfl rfl rfl (by kernel_rfl) rfl rfl) rfl ?_
 rintro V1 _ rfl
 refine O.a rfl rfl <| O.nil <| J.seq <| J.seq <| J.region <| O.m rfl rfl <| O.q (Qt.lenM runUnderlying72 rfl (Src.ro 1 rfl)) rfl <| O.m rfl rfl <| O.q (Qt.lenM runUnderlying53 rfl (Src.ro 2 rfl)) rfl <| O.p (Pu.to (Pu.min rfl rfl) (congrArg (Value.int .i64) (show (if (l.length : Int) < (ns.length : Int) then (l.length : Int) else (ns.length : Int)) = ((min ns.length l.length : Nat) : Int) from (by split <;> omega)))) rfl <| O.m rfl rfl <| O.nil ?_
 refine J.block <| J.loop (X := Nat × Value × List Wd.Bs) (fun ξ => ξ.1 ≤ min ns.length l.length ∧ ξ.2.2 = (Cf.rowW word ns l).take (ξ.1 + 1)) (fun ξ => [(1, nv), (2, lv), (6, str ([] : List UInt8)), (7, ξ.2.1), (15, .int .i64 ((min ns.length l.length : Nat) : Int)), (16, .int .i64 (ξ.1 : Int))]) (fun ξ => [row ξ.2.1 9 1 (ξ.2.2.map encS)]) (fun ξ => min ns.length l.length - ξ.1) ⟨0, V1, [word]⟩ (show 0 ≤ min ns.length l.length ∧ ([word]) = (Cf.rowW word ns l).take (0 + 1) from ⟨by omega, rfl⟩) ⟨rfl, rfl, rfl, rfl, rfl, (congrArg (fun z => some (Value.int .i64 z)) (by first | rfl | omega : (0 : Int) = (0 : Int))), trivial⟩ [0] (by decide) rfl ?_
 rintro ⟨k, V, out⟩ hq2
 obtain ⟨hk, hout⟩ : k ≤ min ns.length l.length ∧ out = (Cf.rowW word ns l).take (k + 1) := hq2
 show J _ _ [(1, nv), (2, lv), (6, str ([] : List UInt8)), (7, V), (15, .int .i64 ((min ns.length l.length : Nat) : Int)), (16, .int .i64 (k : Int))] [row V 9 1 (out.map encS)]
 refine J.seq <| J.region <| O.p (Pu.lss rfl rfl) rfl <| O.nil <| J.seq ?_
 refine J.cond rfl (fun h3 => ?_) (fun h3 => ?_)
 ·
  have p4 := of_decide_eq_true h3
  refine J.skip <| J.seq <| J.block <| J.seq <| J.region <| O.m rfl rfl <| O.a rfl rfl <| O.nil <| J.drawMix [(0, false), (1, false), (2, false), (3, false), (4, false), (5, false), (6, false), (7, false), (8, false), (9, false), (10, false), (11, false), (12, true), (13, true), (14, false)] [] [] Tryz.mixed (by kernel_rfl) (by decide) rfl <| Mx.p rfl (Pu.move rfl) rfl <| Mx.p rfl (Pu.move rfl) rfl <| Mx.p rfl (Pu.move rfl) rfl ?_
  obtain ⟨e5, he5⟩ : ∃ x_, ns[k]? = some x_ := ⟨_, List.getElem?_eq_getElem (by first | omega | (have hx_ := hI _ (List.mem_of_getElem? ‹_›); unfold Dc.I64 at hx_; omega) | (have ho_ := congrArg List.length hout; rw [List.length_take] at ho_; simp only [List.length_append, List.length_cons, List.length_nil]; omega))⟩
  refine Mx.q rfl (Qt.idxM runUnderlying72 sizeOf9 rfl (Src.ro 1 rfl) rfl (by first | omega | (have hx_ := hI _ (List.mem_of_getElem? ‹_›); unfold Dc.I64 at hx_; omega) | (have ho_ := congrArg List.length hout; rw [List.length_take] at ho_; simp only [List.length_append, List.length_cons, List.length_nil]; omega)) (by first | omega | (have hx_ := hI _ (List.mem_of_getElem? ‹_›); unfold Dc.I64 at hx_; omega) | (have ho_ := congrArg List.length hout; rw [List.length_take] at ho_; simp only [List.length_append, List.length_cons, List.length_nil]; omega))) rfl <| Mx.q rfl (Qt.ld rfl (Cel.eltM (Src.ro 1 rfl) he5) (o := (voff nv + k * 1)) (off := 0) (by omega) (Cut.one isAgg9 rfl)) rfl <| Mx.p rfl (Pu.sAdd rfl rfl (by have h1_ := hns _ (List.mem_of_getElem? ‹_›); first | (simp only [List.length_append, List.length_cons, List.length_nil]; omega) | (have h2_ := Wd.itoa_le2 (hI _ (List.mem_of_getElem? ‹_›)); simp only [List.length_append, List.length_cons, List.length_nil]; omega))) rfl <| Mx.p rfl (Pu.move rfl) rfl <| Mx.p rfl (Pu.move rfl) rfl ?_
  obtain ⟨e6, he6⟩ : ∃ x_, l[k]? = some x_ := ⟨_, List.getElem?_eq_getElem (by first | omega | (have hx_ := hI _ (List.mem_of_getElem? ‹_›); unfold Dc.I64 at hx_; omega) | (have ho_ := congrArg List.length hout; rw [List.length_take] at ho_; simp only [List.length_append, List.length_cons, List.length_nil]; omega))⟩
  refine Mx.q rfl (Qt.idxM runUnderlying53 sizeOf3 rfl (Src.ro 2 rfl) rfl (by first | omega | (have hx_ := hI _ (List.mem_of_getElem? ‹_›); unfold Dc.I64 at hx_; omega) | (have ho_ := congrArg List.length hout; rw [List.length_take] at ho_; simp only [List.length_append, List.length_cons, List.length_nil]; omega)) (by first | omega | (have hx_ := hI _ (List.mem_of_getElem? ‹_›); unfold Dc.I64 at hx_; omega) | (have ho_ := congrArg List.length hout; rw [List.length_take] at ho_; simp only [List.length_append, List.length_cons, List.length_nil]; omega))) rfl <| Mx.q rfl (Qt.ld rfl (Cel.eltM (Src.ro 2 rfl) he6) (o := (voff lv + k * 1)) (off := 0) (by omega) (Cut.one isAgg3 rfl)) rfl <| Mx.call (vs := [.int .i64 e6]) (caps := []) rfl (by exact call69) rfl rfl (dec_Text e6 (by first | omega | (have hx_ := hI _ (List.mem_of_getElem? ‹_›); unfold Dc.I64 at hx_; omega) | (have ho_ := congrArg List.length hout; rw [List.length_take] at ho_; simp only [List.length_append, List.length_cons, List.length_nil]; omega)) (by first | omega | (have hx_ := hI _ (List.mem_of_getElem? ‹_›); unfold Dc.I64 at hx_; omega) | (have ho_ := congrArg List.length hout; rw [List.length_take] at ho_; simp only [List.length_append, List.length_cons, List.length_nil]; omega))) (fun _ _ h => h) (RoOk.ro 0 rfl [] rfl RoOk.nil) rfl <| Mx.p rfl (Pu.sAdd rfl rfl (by have h1_ := hns _ (List.mem_of_getElem? ‹_›); first | (simp only [List.length_append, List.length_cons, List.length_nil]; omega) | (have h2_ := Wd.itoa_le2 (hI _ (List.mem_of_getElem? ‹_›)); simp only [List.length_append, List.length_cons, List.length_nil]; omega))) rfl <| Mx.l rfl (Lo.buildM (s := 1) encS [(e5 ++ ([61])) ++ (Lib.itoa e6)] [(0, str ((e5 ++ ([61])) ++ (Lib.itoa e6)))] (by exact runUnderlying72) (by exact sizeOf9) (by exact zeroValue9) rfl rfl rfl (by kernel_rfl) rfl rfl) rfl ?_
  rintro V7 _ rfl
  refine MxK.go [] [] [] (by decide) rfl (by decide) rfl <| Mx.l rfl (Lo.appendM (s := 1) 1 (by exact underlying72) (by exact (info9).1) (by exact (info9).2.1) (by exact (info9).2.2.1) (by exact (info9).2.2.2) rfl rfl rfl rfl rfl (Src.row 0 rfl) encS.one (by first | omega | (have hx_ := hI _ (List.mem_of_getElem? ‹_›); unfold Dc.I64 at hx_; omega) | (have ho_ := congrArg List.length hout; rw [List.length_take] at ho_; simp only [List.length_append, List.length_cons, List.length_nil]; omega)) (by first | omega | (have hx_ := hI _ (List.mem_of_getElem? ‹_›); unfold Dc.I64 at hx_; omega) | (have ho_ := congrArg List.length hout; rw [List.length_take] at ho_; simp only [List.length_append, List.length_cons, List.length_nil]; omega))) rfl ?_
  rintro V8 _ rfl
  refine MxK.go [] [] [] (by decide) rfl (by decide) rfl <| Mx.p rfl (Pu.assign rfl) rfl <| Mx.nil <| J.blk <| J.region <| O.p (Pu.add' rfl rfl (by first | omega | (simp only [List.length_append, List.length_cons, List.length_nil, List.length_set]; omega))) rfl <| O.m rfl rfl <| O.nil ?_
  exact J.lp ⟨k + 1, V8, out ++ ([(e5 ++ ([61])) ++ (Lib.itoa e6)])⟩ (show (k + 1) ≤ min ns.length l.length ∧ (out ++ ([(e5 ++ ([61])) ++ (Lib.itoa e6)])) = (Cf.rowW word ns l).take ((k + 1) + 1) from ⟨by omega, (by rw [hout]; exact (Cf.rowW_next he5 he6).symm)⟩) (show min ns.length l.length - (k + 1) < min ns.length l.length - k from (by first | omega | (have hx_ := hI _ (List.mem_of_getElem? ‹_›); unfold Dc.I64 at hx_; omega) | (have ho_ := congrArg List.length hout; rw [List.length_take] at ho_; simp only [List.length_append, List.length_cons, List.length_nil]; omega))) ⟨rfl, rfl, rfl, rfl, rfl, (congrArg (fun z => some (Value.int .i64 z)) (by first | rfl | omega : ((k : Int) + 1 : Int) = ((k + 1) : Int))), trivial⟩ [1] (by decide) rfl
 ·
  have p9 := of_decide_eq_false h3
  refine J.exit _ rfl <| J.seq <| J.region <| O.m rfl rfl <| O.l (Lo.call [V] (by exact call35) rfl (w_Join V out (by rw [hout]; simp [Cf.rowW]) (by rw [hout, List.length_take, Cf.rowW_len]; omega) (by intro x_ hx_; rw [hout] at hx_; have h_ := Cf.rowW_le hw hns hI x_ (List.mem_of_mem_take hx_); omega)) [] [0] (by decide) rfl [row V 9 1 (out.map encS)] rfl (RoOk.of 0 rfl row_rd [] (by decide) rfl RoOk.nil)) rfl ?_
  rintro _ _ ⟨_, ⟨rfl, rfl⟩, rfl⟩
  refine O.a rfl rfl <| O.nil ?_
  exact J.ret (Fin.ret (rs := [.tmp 6]) rfl [_] ⟨rfl, trivial⟩ [] (by decide) [] rfl ⟨(by rw [hout, Cf.rowW_all (by omega)]; rfl), rfl⟩)

end Go.Proofs.YtnhfgnnpbipcnaaGreatDoor

namespace Go.Proofs.YtnhfgnnpbipcnaaGreatDoor
open Go Go.LK Go.Proofs.Tryz
set_option linter.unusedSimpArgs false

set_option maxRecDepth 100000 in
set_option maxHeartbeats 1000000 in
theorem cf_Numbers (line word : Wd.Bs) (nv : Value) (ns : List Wd.Bs) (hs : line.length ≤ 100000) (hn : ns.length ≤ 900) (hns : ∀ x ∈ ns, x.length ≤ 60000) : Tri prog 81 #[str line, str word, nv] [libW, rd nv 1 (ns.map encS)] [] (fun v L' => ∃ V', v = .tuple #[V', .bool (Cf.numbers line word ns).2] ∧ L' = [row V' 3 1 ((Cf.numbers line word ns).1.map encZ)]) := by
 refine Tri.enter (args := [str line, str word, nv]) (body := _) 66 func81 rfl ntmps81 rfl ?_
 intro w0
 refine J.seq <| J.region <| O.a rfl rfl <| O.a rfl rfl <| O.nil <| J.seq <| J.region <| O.m rfl rfl <| O.l (Lo.call [str line] (by exact call49) rfl (w_Words line (by omega)) [] [] (by decide) rfl [] rfl RoOk.nil) rfl ?_
 rintro v1 _ ⟨_, rfl, rfl⟩
 refine O.a rfl rfl <| O.nil <| J.seq <| J.seq <| J.region <| O.m rfl rfl <| O.q (Qt.lenM runUnderlying72 rfl (Src.row 0 rfl)) rfl <| O.m rfl rfl <| O.q (Qt.lenM runUnderlying72 rfl (Src.ro 1 rfl)) rfl <| O.p (Pu.add' rfl rfl (by first | omega | (simp only [List.length_append, List.length_cons, List.length_nil, List.length_set]; omega))) rfl <| O.p (Pu.neq rfl rfl) rfl <| O.m rfl rfl ?_
 refine by_bool (decide (((Wd.wordsL line).length : Int) ≠ ((ns.length : Int) + 1))) (fun h2 => ?_) (fun h2 => ?_)
 ·
  have p3 := of_decide_eq_true h2
  refine O.gskip (t := 24) rfl rfl (no_bool (by rw [h2]; decide)) rfl rfl <| O.gskip (t := 24) rfl rfl (no_bool (by rw [h2]; decide)) rfl rfl <| O.gskip (t := 24) rfl rfl (no_bool (by rw [h2]; decide)) rfl rfl <| O.gskip (t := 24) rfl rfl (no_bool (by rw [h2]; decide)) rfl rfl <| O.gskip (t := 24) rfl rfl (no_bool (by rw [h2]; decide)) rfl rfl <| O.p (Pu.pickT rfl h2 rfl) rfl <| O.nil <| J.condT rfl rfl <| J.seq <| J.region <| O.a rfl rfl <| O.a rfl rfl ?_
  refine O.nil <| J.nilRow 3 1 ?_
  exact J.ret (Fin.ret (rs := [.tmp 6, .tmp 7]) rfl [_, _] ⟨rfl, rfl, trivial⟩ [0] (by decide) [row (Value.slice none 0 0) 3 1 (([] : List Int).map encZ)] rfl ⟨Value.slice none 0 0, (by first | (rw [Cf.numbers_few (by omega)]; done) | (rw [Cf.numbers_few (by omega)]; rfl)), (by first | (rw [Cf.numbers_few (by omega)]; done) | (rw [Cf.numbers_few (by omega)]; rfl))⟩)
 ·
  have p4 := of_decide_eq_false h2
  refine O.gq (t := 24) rfl rfl h2 rfl (Pu.qt (Pu.move rfl)) rfl ?_
  obtain ⟨e5, he5⟩ : ∃ x_, (Wd.wordsL line)[0]? = some x_ := ⟨_, List.getElem?_eq_getElem (by first | omega | (have h_ := Wd.words_cut (s := line) ‹_›; omega) | (have h0_ := Cf.num_len hst; simp only [List.length_append, List.length_cons, List.length_nil]; omega) | (have h_ := Wd.words_cut (s := line) ‹_›; exact Nat.le_trans (Cf.cutPre_len _ _) (by omega)) | (simp only [List.length_append, List.length_cons, List.length_nil] at *; omega))⟩
  refine O.gq (t := 24) rfl rfl h2 rfl (Qt.idxM runUnderlying72 sizeOf9 rfl (Src.row 0 rfl) rfl (by first | omega | (have h_ := Wd.words_cut (s := line) ‹_›; omega) | (have h0_ := Cf.num_len hst; simp only [List.length_append, List.length_cons, List.length_nil]; omega) | (have h_ := Wd.words_cut (s := line) ‹_›; exact Nat.le_trans (Cf.cutPre_len _ _) (by omega)) | (simp only [List.length_append, List.length_cons, List.length_nil] at *; omega)) (by first | omega | (have h_ := Wd.words_cut (s := line) ‹_›; omega) | (have h0_ := Cf.num_len hst; simp only [List.length_append, List.length_cons, List.length_nil]; omega) | (have h_ := Wd.words_cut (s := line) ‹_›; exact Nat.le_trans (Cf.cutPre_len _ _) (by omega)) | (simp only [List.length_append, List.length_cons, List.length_nil] at *; omega))) rfl <| O.gq (t := 24) rfl rfl h2 rfl (Qt.ld rfl (Cel.eltM (Src.row 0 rfl) he5) (o := (voff v1 + 0 * 1)) (off := 0) (by omega) (Cut.one isAgg9 rfl)) rfl <| O.gq (t := 24) rfl rfl h2 rfl (Pu.qt (Pu.move rfl)) rfl <| O.gq (t := 24) rfl rfl h2 rfl (Pu.qt (Pu.sNeq rfl rfl)) rfl <| O.p (Pu.pickF rfl h2 rfl) rfl <| O.nil ?_
  refine J.cond rfl (fun h6 => ?_) (fun h6 => ?_)
  ·
   have h7 : (e5 == word) = false := not_flip h6
   refine J.seq <| J.region <| O.a rfl rfl <| O.a rfl rfl <| O.nil <| J.nilRow 3 1 ?_
   exact J.ret (Fin.ret (rs := [.tmp 6, .tmp 7]) rfl [_, _] ⟨rfl, rfl, trivial⟩ [0] (by decide) [row (Value.slice none 0 0) 3 1 (([] : List Int).map encZ)] rfl ⟨Value.slice none 0 0, (by first | (rw [Cf.numbers_word he5 ‹_›]; done) | (rw [Cf.numbers_word he5 ‹_›]; rfl)), (by first | (rw [Cf.numbers_word he5 ‹_›]; done) | (rw [Cf.numbers_word he5 ‹_›]; rfl))⟩)
  ·
   have h8 : (e5 == word) = true := not_flip h6
   refine J.skip <| J.seq <| J.region <| O.a rfl rfl <| O.nil <| J.seq <| J.seq <| J.region <| O.m rfl rfl <| O.q (Qt.lenM runUnderlying72 rfl (Src.ro 1 rfl)) rfl <| O.m rfl rfl <| O.nil ?_
   refine J.block <| J.nilRow 3 1 <| J.loop (X := Nat × Value × List Int) (fun ξ => ξ.1 ≤ ns.length ∧ Cf.numN (Wd.wordsL line) ns ξ.1 = some ξ.2.2) (fun ξ => [(8, v1), (9, ξ.2.1), (31, nv), (32, .int .i64 (ns.length : Int)), (33, .int .i64 (ξ.1 : Int))]) (fun ξ => [row v1 9 1 ((Wd.wordsL line).map encS), row ξ.2.1 3 1 (ξ.2.2.map encZ)]) (fun ξ => ns.length - ξ.1) ⟨0, Value.slice none 0 0, []⟩ (show 0 ≤ ns.length ∧ Cf.numN (Wd.wordsL line) ns 0 = some ([]) from ⟨by omega, rfl⟩) ⟨rfl, rfl, rfl, rfl, (congrArg (fun z => some (Value.int .i64 z)) (by first | rfl | omega : (0 : Int) = (0 : Int))), trivial⟩ [1, 0] (by decide) rfl ?_
   rintro ⟨k, V, out⟩ hq9
   obtain ⟨hk, hst⟩ : k ≤ ns.length ∧ Cf.numN (Wd.wordsL line) ns k = some out := hq9
   show J _ _ [(8, v1), (9, V), (31, nv), (32, .int .i64 (ns.length : Int)), (33, .int .i64 (k : Int))] [row v1 9 1 ((Wd.wordsL line).map encS), row V 3 1 (out.map encZ)]
   refine J.seq <| J.region <| O.p (Pu.lss rfl rfl) rfl <| O.nil <| J.seq ?_
   refine J.cond rfl (fun h10 => ?_) (fun h10 => ?_)
   ·
    have p11 := of_decide_eq_true h10
    refine J.skip <| J.seq <| J.block <| J.seq <| J.region <| O.m rfl rfl ?_
    obtain ⟨e12, he12⟩ : ∃ x_, ns[k]? = some x_ := ⟨_, List.getElem?_eq_getElem (by first | omega | (have h_ := Wd.words_cut (s := line) ‹_›; omega) | (have h0_ := Cf.num_len hst; simp only [List.length_append, List.length_cons, List.length_nil]; omega) | (have h_ := Wd.words_cut (s := line) ‹_›; exact Nat.le_trans (Cf.cutPre_len _ _) (by omega)) | (simp only [List.length_append, List.length_cons, List.length_nil] at *; omega))⟩
    refine O.q (Qt.idxM runUnderlying72 sizeOf9 rfl (Src.ro 1 rfl) rfl (by first | omega | (have h_ := Wd.words_cut (s := line) ‹_›; omega) | (have h0_ := Cf.num_len hst; simp only [List.length_append, List.length_cons, List.length_nil]; omega) | (have h_ := Wd.words_cut (s := line) ‹_›; exact Nat.le_trans (Cf.cutPre_len _ _) (by omega)) | (simp only [List.length_append, List.length_cons, List.length_nil] at *; omega)) (by first | omega | (have h_ := Wd.words_cut (s := line) ‹_›; omega) | (have h0_ := Cf.num_len hst; simp only [List.length_append, List.length_cons, List.length_nil]; omega) | (have h_ := Wd.words_cut (s := line) ‹_›; exact Nat.le_trans (Cf.cutPre_len _ _) (by omega)) | (simp only [List.length_append, List.length_cons, List.length_nil] at *; omega))) rfl <| O.q (Qt.ld rfl (Cel.eltM (Src.ro 1 rfl) he12) (o := (voff nv + k * 1)) (off := 0) (by omega) (Cut.one isAgg9 rfl)) rfl <| O.a rfl rfl <| O.a rfl rfl <| O.nil <| J.seq <| J.region <| O.m rfl rfl <| O.m rfl rfl <| O.p (Pu.add' rfl rfl (by first | omega | (simp only [List.length_append, List.length_cons, List.length_nil, List.length_set]; omega))) rfl ?_
    obtain ⟨e13, he13⟩ : ∃ x_, (Wd.wordsL line)[(k + 1)]? = some x_ := ⟨_, List.getElem?_eq_getElem (by first | omega | (have h_ := Wd.words_cut (s := line) ‹_›; omega) | (have h0_ := Cf.num_len hst; simp only [List.length_append, List.length_cons, List.length_nil]; omega) | (have h_ := Wd.words_cut (s := line) ‹_›; exact Nat.le_trans (Cf.cutPre_len _ _) (by omega)) | (simp only [List.length_append, List.length_cons, List.length_nil] at *; omega))⟩
    refine O.q (Qt.idxM runUnderlying72 sizeOf9 rfl (Src.row 0 rfl) rfl (by first | omega | (have h_ := Wd.words_cut (s := line) ‹_›; omega) | (have h0_ := Cf.num_len hst; simp only [List.length_append, List.length_cons, List.length_nil]; omega) | (have h_ := Wd.words_cut (s := line) ‹_›; exact Nat.le_trans (Cf.cutPre_len _ _) (by omega)) | (simp only [List.length_append, List.length_cons, List.length_nil] at *; omega)) (by first | omega | (have h_ := Wd.words_cut (s := line) ‹_›; omega) | (have h0_ := Cf.num_len hst; simp only [List.length_append, List.length_cons, List.length_nil]; omega) | (have h_ := Wd.words_cut (s := line) ‹_›; exact Nat.le_trans (Cf.cutPre_len _ _) (by omega)) | (simp only [List.length_append, List.length_cons, List.length_nil] at *; omega))) rfl <| O.q (Qt.ld rfl (Cel.eltM (Src.row 0 rfl) he13) (o := (voff v1 + (k + 1) * 1)) (off := 0) (by omega) (Cut.one isAgg9 rfl)) rfl <| O.m rfl rfl <| O.p (Pu.sAdd rfl rfl (by have h1_ := hns _ (List.mem_of_getElem? ‹_›); simp only [List.length_append, List.length_cons, List.length_nil]; omega)) rfl <| O.l (Lo.call [str e13, str (e12 ++ ([61] : List UInt8))] (by exact call109) rfl (s_CutPrefix e13 (e12 ++ ([61] : List UInt8))) [] [0, 1] (by decide) rfl [row v1 9 1 ((Wd.wordsL line).map encS), row V 3 1 (out.map encZ)] rfl RoOk.nil) rfl ?_
    rintro _ _ ⟨_, ⟨rfl, rfl⟩, rfl⟩
    refine O.m rfl rfl <| O.p (Pu.extract rfl rfl) rfl <| O.p (Pu.extract rfl rfl) rfl <| O.a rfl rfl <| O.a rfl rfl <| O.nil <| J.seq <| J.region <| O.m rfl rfl <| O.l (Lo.call [str ((Cf.cutPre e13 (e12 ++ ([61] : List UInt8))).1)] (by exact call110) rfl (dec_Parse ((Cf.cutPre e13 (e12 ++ ([61] : List UInt8))).1) (by first | omega | (have h_ := Wd.words_cut (s := line) ‹_›; omega) | (have h0_ := Cf.num_len hst; simp only [List.length_append, List.length_cons, List.length_nil]; omega) | (have h_ := Wd.words_cut (s := line) ‹_›; exact Nat.le_trans (Cf.cutPre_len _ _) (by omega)) | (simp only [List.length_append, List.length_cons, List.length_nil] at *; omega))) [] [0, 1] (by decide) rfl [row v1 9 1 ((Wd.wordsL line).map encS), row V 3 1 (out.map encZ)] rfl (RoOk.ro 0 rfl [] rfl RoOk.nil)) rfl ?_
    rintro _ _ ⟨_, ⟨rfl, rfl⟩, rfl⟩
    refine O.m rfl rfl <| O.p (Pu.extract rfl rfl) rfl <| O.p (Pu.extract rfl rfl) rfl <| O.a rfl rfl <| O.a rfl rfl <| O.nil <| J.seq <| J.seq <| J.region <| O.m rfl rfl <| O.p (Pu.not rfl) rfl <| O.m rfl rfl ?_
    refine by_bool (!((Cf.cutPre e13 (e12 ++ ([61] : List UInt8))).2)) (fun h16 => ?_) (fun h16 => ?_)
    ·
     have h17 : ((Cf.cutPre e13 (e12 ++ ([61] : List UInt8))).2) = false := not_flip h16
     refine O.gskip (t := 56) rfl rfl (no_bool (by rw [h16]; decide)) rfl rfl <| O.gskip (t := 56) rfl rfl (no_bool (by rw [h16]; decide)) rfl rfl <| O.p (Pu.pickT rfl h16 rfl) rfl <| O.nil <| J.condT rfl rfl <| J.seq <| J.region <| O.a rfl rfl <| O.a rfl rfl <| O.nil <| J.nilRow 3 1 ?_
     exact J.ret (Fin.ret (rs := [.tmp 6, .tmp 7]) rfl [_, _] ⟨rfl, rfl, trivial⟩ [0] (by decide) [row (Value.slice none 0 0) 3 1 (([] : List Int).map encZ)] rfl ⟨Value.slice none 0 0, (by first | (rw [Cf.numbers_bad (by omega) he5 ‹_› hst he13 he12 (by first | exact Cf.bad_short (by omega) | exact Cf.bad_take ‹_› | exact Cf.bad_parse (by omega) ‹_› ‹_› | (intro h_; simp_all; done) | (intro h_; omega))]; done) | (rw [Cf.numbers_bad (by omega) he5 ‹_› hst he13 he12 (by first | exact Cf.bad_short (by omega) | exact Cf.bad_take ‹_› | exact Cf.bad_parse (by omega) ‹_› ‹_› | (intro h_; simp_all; done) | (intro h_; omega))]; rfl)), (by first | (rw [Cf.numbers_bad (by omega) he5 ‹_› hst he13 he12 (by first | exact Cf.bad_short (by omega) | exact Cf.bad_take ‹_› | exact Cf.bad_parse (by omega) ‹_› ‹_› | (intro h_; simp_all; done) | (intro h_; omega))]; done) | (rw [Cf.numbers_bad (by omega) he5 ‹_› hst he13 he12 (by first | exact Cf.bad_short (by omega) | exact Cf.bad_take ‹_› | exact Cf.bad_parse (by omega) ‹_› ‹_› | (intro h_; simp_all; done) | (intro h_; omega))]; rfl))⟩)
    ·
     have h18 : ((Cf.cutPre e13 (e12 ++ ([61] : List UInt8))).2) = true := not_flip h16
     refine O.gq (t := 56) rfl rfl h16 rfl (Pu.qt (Pu.move rfl)) rfl <| O.gq (t := 56) rfl rfl h16 rfl (Pu.qt (Pu.neq rfl rfl)) rfl <| O.p (Pu.pickF rfl h16 rfl) rfl <| O.nil ?_
     refine J.cond rfl (fun h19 => ?_) (fun h19 => ?_)
     ·
      have p20 := of_decide_eq_true h19
      refine J.seq <| J.region <| O.a rfl rfl <| O.a rfl rfl <| O.nil <| J.nilRow 3 1 ?_
      exact J.ret (Fin.ret (rs := [.tmp 6, .tmp 7]) rfl [_, _] ⟨rfl, rfl, trivial⟩ [0] (by decide) [row (Value.slice none 0 0) 3 1 (([] : List Int).map encZ)] rfl ⟨Value.slice none 0 0, (by first | (rw [Cf.numbers_bad (by omega) he5 ‹_› hst he13 he12 (by first | exact Cf.bad_short (by omega) | exact Cf.bad_take ‹_› | exact Cf.bad_parse (by omega) ‹_› ‹_› | (intro h_; simp_all; done) | (intro h_; omega))]; done) | (rw [Cf.numbers_bad (by omega) he5 ‹_› hst he13 he12 (by first | exact Cf.bad_short (by omega) | exact Cf.bad_take ‹_› | exact Cf.bad_parse (by omega) ‹_› ‹_› | (intro h_; simp_all; done) | (intro h_; omega))]; rfl)), (by first | (rw [Cf.numbers_bad (by omega) he5 ‹_› hst he13 he12 (by first | exact Cf.bad_short (by omega) | exact Cf.bad_take ‹_› | exact Cf.bad_parse (by omega) ‹_› ‹_› | (intro h_; simp_all; done) | (intro h_; omega))]; done) | (rw [Cf.numbers_bad (by omega) he5 ‹_› hst he13 he12 (by first | exact Cf.bad_short (by omega) | exact Cf.bad_take ‹_› | exact Cf.bad_parse (by omega) ‹_› ‹_› | (intro h_; simp_all; done) | (intro h_; omega))]; rfl))⟩)
     ·
      have p21 := of_decide_eq_false h19
      refine J.skip <| J.region <| O.m rfl rfl <| O.m rfl rfl <| O.l (Lo.buildM (s := 1) encZ [(Dc.parse ((Cf.cutPre e13 (e12 ++ ([61] : List UInt8))).1)).1] [(0, .int .i64 ((Dc.parse ((Cf.cutPre e13 (e12 ++ ([61] : List UInt8))).1)).1))] (by exact runUnderlying53) (by exact sizeOf3) (by exact zeroValue3) rfl rfl rfl (by kernel_rfl) rfl rfl) rfl ?_
      rintro V22 _ rfl
      refine O.l (Lo.appendM (s := 1) 2 (by exact underlying53) (by exact (info3).1) (by exact (info3).2.1) (by exact (info3).2.2.1) (by exact (info3).2.2.2) rfl rfl rfl rfl rfl (Src.row 0 rfl) encZ.one (by first | omega | (have h_ := Wd.words_cut (s := line) ‹_›; omega) | (have h0_ := Cf.num_len hst; simp only [List.length_append, List.length_cons, List.length_nil]; omega) | (have h_ := Wd.words_cut (s := line) ‹_›; exact Nat.le_trans (Cf.cutPre_len _ _) (by omega)) | (simp only [List.length_append, List.length_cons, List.length_nil] at *; omega)) (by first | omega | (have h_ := Wd.words_cut (s := line) ‹_›; omega) | (have h0_ := Cf.num_len hst; simp only [List.length_append, List.length_cons, List.length_nil]; omega) | (have h_ := Wd.words_cut (s := line) ‹_›; exact Nat.le_trans (Cf.cutPre_len _ _) (by omega)) | (simp only [List.length_append, List.length_cons, List.length_nil] at *; omega))) rfl ?_
      rintro V23 _ rfl
      refine O.a rfl rfl <| O.nil <| J.blk <| J.region <| O.p (Pu.add' rfl rfl (by first | omega | (simp only [List.length_append, List.length_cons, List.length_nil, List.length_set]; omega))) rfl <| O.m rfl rfl <| O.nil ?_
      exact J.lp ⟨k + 1, V23, out ++ ([(Dc.parse ((Cf.cutPre e13 (e12 ++ ([61] : List UInt8))).1)).1])⟩ (show (k + 1) ≤ ns.length ∧ Cf.numN (Wd.wordsL line) ns (k + 1) = some (out ++ ([(Dc.parse ((Cf.cutPre e13 (e12 ++ ([61] : List UInt8))).1)).1])) from ⟨by omega, Cf.num_next hst he13 he12 ‹_› (by omega)⟩) (show ns.length - (k + 1) < ns.length - k from (by first | omega | (have h_ := Wd.words_cut (s := line) ‹_›; omega) | (have h0_ := Cf.num_len hst; simp only [List.length_append, List.length_cons, List.length_nil]; omega) | (have h_ := Wd.words_cut (s := line) ‹_›; exact Nat.le_trans (Cf.cutPre_len _ _) (by omega)) | (simp only [List.length_append, List.length_cons, List.length_nil] at *; omega))) ⟨rfl, rfl, rfl, rfl, (congrArg (fun z => some (Value.int .i64 z)) (by first | rfl | omega : ((k : Int) + 1 : Int) = ((k + 1) : Int))), trivial⟩ [1, 2] (by decide) rfl
   ·
    have p24 := of_decide_eq_false h10
    refine J.exit _ rfl <| J.seq <| J.region <| O.m rfl rfl <| O.a rfl rfl <| O.a rfl rfl <| O.nil ?_
    exact J.ret (Fin.ret (rs := [.tmp 6, .tmp 7]) rfl [_, _] ⟨rfl, rfl, trivial⟩ [1] (by decide) [row V 3 1 (out.map encZ)] rfl ⟨V, (by first | (rw [Cf.numbers_all (by omega) he5 ‹_› hst (by omega)]; done) | (rw [Cf.numbers_all (by omega) he5 ‹_› hst (by omega)]; rfl)), (by first | (rw [Cf.numbers_all (by omega) he5 ‹_› hst (by omega)]; done) | (rw [Cf.numbers_all (by omega) he5 ‹_› hst (by omega)]; rfl))⟩)

end Go.Proofs.YtnhfgnnpbipcnaaGreatDoor
