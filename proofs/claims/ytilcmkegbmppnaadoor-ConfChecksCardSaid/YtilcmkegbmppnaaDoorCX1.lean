/-
  Walks, printed by a program of mine (lk.py): each function meets its contract.
-/
import Derived.KernelRfl
import Derived.Test.YtilcmkegbmppnaaDoorKX2
import Derived.Test.YtilcmkegbmppnaaDoorConf1
import Derived.Test.YtilcmkegbmppnaaDoorLk26
namespace Go.Proofs.YtilcmkegbmppnaaDoor
open Go Go.LK
set_option linter.unusedSimpArgs false

set_option maxRecDepth 100000 in
theorem cf_heads  : Tri Tryd.prog 38 #[] [var 0 (Kn.names.map vS) 130] [] (fun v L' => L' = [row v 9 1 (Cf.heads.map encS)]) := by
  refine Tri.enter (args := []) (body := _) 4 Tryd.func38 rfl Tryd.ntmps38 rfl ?_
  intro w0
  refine J.seq ?_
  refine J.region ?_
  refine O.p (Pu.assign rfl) rfl ?_
  refine O.nil ?_
  refine J.seq ?_
  refine J.region ?_
  refine O.l (Lo.buildM (s := 1) encS [[119, 111, 114, 107, 101, 114, 115], [113, 117, 101, 117, 101], [119, 105, 110, 100, 111, 119], [116, 105, 101, 114, 115], [115, 101, 101, 110], [116, 116, 108]] [(0, str ([119, 111, 114, 107, 101, 114, 115])), (1, str ([113, 117, 101, 117, 101])), (2, str ([119, 105, 110, 100, 111, 119])), (3, str ([116, 105, 101, 114, 115])), (4, str ([115, 101, 101, 110])), (5, str ([116, 116, 108]))] (by exact Tryd.runUnderlying27) (by exact Tryd.sizeOf9) (by exact Tryd.zeroValue9) rfl rfl rfl (by kernel_rfl) rfl rfl) rfl ?_
  rintro V1 _ rfl
  refine O.l (Lo.call [] (by exact Tryd.call72) rfl kn_Names [] [0] (by decide) rfl [row V1 9 1 (([[119, 111, 114, 107, 101, 114, 115], [113, 117, 101, 117, 101], [119, 105, 110, 100, 111, 119], [116, 105, 101, 114, 115], [115, 101, 101, 110], [116, 116, 108]]).map encS)] rfl (RoOk.ro 0 rfl [] rfl RoOk.nil)) rfl ?_
  rintro v2 _ ⟨_, rfl, rfl⟩
  refine O.l (Lo.appendM (s := 1) 1 (by exact Tryd.underlying27) (by exact (info9).1) (by exact (info9).2.1) (by exact (info9).2.2.1) (by exact (info9).2.2.2) rfl rfl rfl rfl rfl (Src.row 0 rfl) encS.one (by decide) (by decide)) rfl ?_
  rintro V3 _ rfl
  refine O.p (Pu.assign rfl) rfl ?_
  refine O.nil ?_
  exact J.ret (Fin.ret (rs := [.tmp 0]) rfl [_] ⟨rfl, trivial⟩ [1] (by decide) [row V3 9 1 ((([[119, 111, 114, 107, 101, 114, 115], [113, 117, 101, 117, 101], [119, 105, 110, 100, 111, 119], [116, 105, 101, 114, 115], [115, 101, 101, 110], [116, 116, 108]]) ++ Kn.names).map encS)] rfl rfl)

set_option maxRecDepth 100000 in
theorem r28_heads  : Tri Tryd.prog 39 #[] [] [] (fun v L' => L' = [row v 9 1 (Cf.heads.map encS)]) := by
  refine Tri.enter (args := []) (body := _) 6 Tryd.func39 rfl Tryd.ntmps39 rfl ?_
  intro w0
  refine J.seq ?_
  refine J.region ?_
  refine O.p (Pu.assign rfl) rfl ?_
  refine O.nil ?_
  refine J.seq ?_
  refine J.region ?_
  refine O.l (Lo.buildM (s := 1) encS [[119, 111, 114, 107, 101, 114, 115], [113, 117, 101, 117, 101], [119, 105, 110, 100, 111, 119], [116, 105, 101, 114, 115], [115, 101, 101, 110], [116, 116, 108]] [(0, str ([119, 111, 114, 107, 101, 114, 115])), (1, str ([113, 117, 101, 117, 101])), (2, str ([119, 105, 110, 100, 111, 119])), (3, str ([116, 105, 101, 114, 115])), (4, str ([115, 101, 101, 110])), (5, str ([116, 116, 108]))] (by exact Tryd.runUnderlying27) (by exact Tryd.sizeOf9) (by exact Tryd.zeroValue9) rfl rfl rfl (by kernel_rfl) rfl rfl) rfl ?_
  rintro V1 _ rfl
  refine O.p (Pu.assign rfl) rfl ?_
  refine O.nil ?_
  refine J.seq ?_
  refine J.region ?_
  refine O.p (Pu.move rfl) rfl ?_
  refine O.l (Lo.call [] (by exact Tryd.call73) rfl r18_Names [] [0] (by decide) rfl [row V1 9 1 (([[119, 111, 114, 107, 101, 114, 115], [113, 117, 101, 117, 101], [119, 105, 110, 100, 111, 119], [116, 105, 101, 114, 115], [115, 101, 101, 110], [116, 116, 108]]).map encS)] rfl RoOk.nil) rfl ?_
  rintro v2 _ ⟨_, rfl, rfl⟩
  refine O.l (Lo.appendM (s := 1) 1 (by exact Tryd.underlying27) (by exact (info9).1) (by exact (info9).2.1) (by exact (info9).2.2.1) (by exact (info9).2.2.2) rfl rfl rfl rfl rfl (Src.row 0 rfl) encS.one (by decide) (by decide)) rfl ?_
  rintro V3 _ rfl
  refine O.p (Pu.assign rfl) rfl ?_
  refine O.nil ?_
  exact J.ret (Fin.ret (rs := [.tmp 0]) rfl [_] ⟨rfl, trivial⟩ [1] (by decide) [row V3 9 1 ((([[119, 111, 114, 107, 101, 114, 115], [113, 117, 101, 117, 101], [119, 105, 110, 100, 111, 119], [116, 105, 101, 114, 115], [115, 101, 101, 110], [116, 116, 108]]) ++ Kn.names).map encS)] rfl rfl)

set_option maxRecDepth 100000 in
theorem cf_tails  : Tri Tryd.prog 41 #[] [] [] (fun v L' => L' = [row v 9 1 (Cf.tails.map encS)]) := by
  refine Tri.enter (args := []) (body := _) 2 Tryd.func41 rfl Tryd.ntmps41 rfl ?_
  intro w0
  refine J.seq ?_
  refine J.region ?_
  refine O.p (Pu.assign rfl) rfl ?_
  refine O.nil ?_
  refine J.seq ?_
  refine J.region ?_
  refine O.l (Lo.buildM (s := 1) encS [[116, 111], [116, 105, 101, 114], [119, 101, 105, 103, 104, 116], [109, 111, 115, 116]] [(0, str ([116, 111])), (1, str ([116, 105, 101, 114])), (2, str ([119, 101, 105, 103, 104, 116])), (3, str ([109, 111, 115, 116]))] (by exact Tryd.runUnderlying27) (by exact Tryd.sizeOf9) (by exact Tryd.zeroValue9) rfl rfl rfl (by kernel_rfl) rfl rfl) rfl ?_
  rintro V1 _ rfl
  refine O.p (Pu.assign rfl) rfl ?_
  refine O.nil ?_
  exact J.ret (Fin.ret (rs := [.tmp 0]) rfl [_] ⟨rfl, trivial⟩ [0] (by decide) [row V1 9 1 (([[116, 111], [116, 105, 101, 114], [119, 101, 105, 103, 104, 116], [109, 111, 115, 116]]).map encS)] rfl rfl)

set_option maxRecDepth 100000 in
theorem r28_tails  : Tri Tryd.prog 42 #[] [] [] (fun v L' => L' = [row v 9 1 (Cf.tails.map encS)]) := by
  refine Tri.enter (args := []) (body := _) 2 Tryd.func42 rfl Tryd.ntmps42 rfl ?_
  intro w0
  refine J.seq ?_
  refine J.region ?_
  refine O.p (Pu.assign rfl) rfl ?_
  refine O.nil ?_
  refine J.seq ?_
  refine J.region ?_
  refine O.l (Lo.buildM (s := 1) encS [[116, 111], [116, 105, 101, 114], [119, 101, 105, 103, 104, 116], [109, 111, 115, 116]] [(0, str ([116, 111])), (1, str ([116, 105, 101, 114])), (2, str ([119, 101, 105, 103, 104, 116])), (3, str ([109, 111, 115, 116]))] (by exact Tryd.runUnderlying27) (by exact Tryd.sizeOf9) (by exact Tryd.zeroValue9) rfl rfl rfl (by kernel_rfl) rfl rfl) rfl ?_
  rintro V1 _ rfl
  refine O.p (Pu.assign rfl) rfl ?_
  refine O.nil ?_
  exact J.ret (Fin.ret (rs := [.tmp 0]) rfl [_] ⟨rfl, trivial⟩ [0] (by decide) [row V1 9 1 (([[116, 111], [116, 105, 101, 114], [119, 101, 105, 103, 104, 116], [109, 111, 115, 116]]).map encS)] rfl rfl)

set_option maxRecDepth 100000 in
theorem cf_numbers (x0 x1 x2 x3 x4 x5 x6 x7 x8 x9 x10 x11 x12 : Int) (cv : Value) (cs : List Cl) : Tri Tryd.prog 43 #[.agg #[.int .i64 x0, .int .i64 x1, .int .i64 x2, .int .i64 x3, .int .i64 x4, .int .i64 x5, .int .i64 x6, .int .i64 x7, .int .i64 x8, .int .i64 x9, .int .i64 x10, .int .i64 x11, .int .i64 x12, cv]] [rd cv 4 (cs.map Cl.cells)] [] (fun v L' => L' = [row v 3 1 ([x0, x1, x2, x3, x4, x5, x6, x7, x8, x9, x10, x11, x12].map encZ)]) := by
  refine Tri.enter (args := [.agg #[.int .i64 x0, .int .i64 x1, .int .i64 x2, .int .i64 x3, .int .i64 x4, .int .i64 x5, .int .i64 x6, .int .i64 x7, .int .i64 x8, .int .i64 x9, .int .i64 x10, .int .i64 x11, .int .i64 x12, cv]]) (body := _) 20 Tryd.func43 rfl Tryd.ntmps43 rfl ?_
  intro w0
  refine J.seq ?_
  refine J.region ?_
  refine O.one (Src.ro 0 rfl) (fun hV2 => ?_)
  refine O.l (Lo.box [.int .i64 x0, .int .i64 x1, .int .i64 x2, .int .i64 x3, .int .i64 x4, .int .i64 x5, .int .i64 x6, .int .i64 x7, .int .i64 x8, .int .i64 x9, .int .i64 x10, .int .i64 x11, .int .i64 x12, cv] rfl rfl) rfl ?_
  rintro _ _ ⟨g1, rfl, rfl⟩
  refine O.p (Pu.assign rfl) rfl ?_
  refine O.nil ?_
  refine J.seq ?_
  refine J.drawA Tryd.mixed ?_
  refine A.edge 12 15 rfl ?_ ?_
  ·
    refine A.mix [(0, false), (1, false), (2, false), (3, false), (4, false), (5, false), (6, false), (7, false), (8, false), (9, false), (10, false), (11, false), (13, false), (14, false), (15, true), (12, true), (16, true), (17, false)] [0] [var g1 [.int .i64 x0, .int .i64 x1, .int .i64 x2, .int .i64 x3, .int .i64 x4, .int .i64 x5, .int .i64 x6, .int .i64 x7, .int .i64 x8, .int .i64 x9, .int .i64 x10, .int .i64 x11, .int .i64 x12, cv] 26] (by kernel_rfl) (by decide) rfl ?_
    refine Mx.p rfl (Pu.fieldAddr (off' := 0) Tryd.runUnderlying26 rfl Tryd.sizeOf3 rfl rfl rfl) rfl ?_
    refine Mx.q rfl (Qt.ld rfl (Cel.var 0 rfl) (o := 0) (off := 0) rfl (Cut.one Tryd.isAgg3 rfl)) rfl ?_
    refine Mx.p rfl (Pu.fieldAddr (off' := 1) Tryd.runUnderlying26 rfl Tryd.sizeOf3 rfl rfl rfl) rfl ?_
    refine Mx.q rfl (Qt.ld rfl (Cel.var 0 rfl) (o := 0) (off := 1) rfl (Cut.one Tryd.isAgg3 rfl)) rfl ?_
    refine Mx.p rfl (Pu.fieldAddr (off' := 2) Tryd.runUnderlying26 rfl Tryd.sizeOf3 rfl rfl rfl) rfl ?_
    refine Mx.q rfl (Qt.ld rfl (Cel.var 0 rfl) (o := 0) (off := 2) rfl (Cut.one Tryd.isAgg3 rfl)) rfl ?_
    refine Mx.p rfl (Pu.fieldAddr (off' := 3) Tryd.runUnderlying26 rfl Tryd.sizeOf3 rfl rfl rfl) rfl ?_
    refine Mx.q rfl (Qt.ld rfl (Cel.var 0 rfl) (o := 0) (off := 3) rfl (Cut.one Tryd.isAgg3 rfl)) rfl ?_
    refine Mx.p rfl (Pu.fieldAddr (off' := 4) Tryd.runUnderlying26 rfl Tryd.sizeOf3 rfl rfl rfl) rfl ?_
    refine Mx.q rfl (Qt.ld rfl (Cel.var 0 rfl) (o := 0) (off := 4) rfl (Cut.one Tryd.isAgg3 rfl)) rfl ?_
    refine Mx.p rfl (Pu.fieldAddr (off' := 5) Tryd.runUnderlying26 rfl Tryd.sizeOf3 rfl rfl rfl) rfl ?_
    refine Mx.q rfl (Qt.ld rfl (Cel.var 0 rfl) (o := 0) (off := 5) rfl (Cut.one Tryd.isAgg3 rfl)) rfl ?_
    refine Mx.p rfl (Pu.fieldAddr (off' := 6) Tryd.runUnderlying26 rfl Tryd.sizeOf23 rfl rfl rfl) rfl ?_
    refine Mx.q rfl (Qt.ld rfl (Cel.var 0 rfl) (o := 0) (off := 6) rfl (Cut.agg [.int .i64 x6, .int .i64 x7, .int .i64 x8, .int .i64 x9, .int .i64 x10, .int .i64 x11, .int .i64 x12] Tryd.isAgg23 Tryd.sizeOf23 rfl rfl)) rfl ?_
    refine Mx.l rfl (Lo.call [.agg #[.int .i64 x6, .int .i64 x7, .int .i64 x8, .int .i64 x9, .int .i64 x10, .int .i64 x11, .int .i64 x12]] (by exact Tryd.call74) rfl (kn_Values x6 x7 x8 x9 x10 x11 x12) [] [0] (by decide) rfl [var g1 [.int .i64 x0, .int .i64 x1, .int .i64 x2, .int .i64 x3, .int .i64 x4, .int .i64 x5, .int .i64 x6, .int .i64 x7, .int .i64 x8, .int .i64 x9, .int .i64 x10, .int .i64 x11, .int .i64 x12, cv] 26] rfl RoOk.nil) rfl ?_
    rintro v3 _ ⟨_, rfl, rfl⟩
    refine MxK.go [1] [0] [var g1 [.int .i64 x0, .int .i64 x1, .int .i64 x2, .int .i64 x3, .int .i64 x4, .int .i64 x5, .int .i64 x6, .int .i64 x7, .int .i64 x8, .int .i64 x9, .int .i64 x10, .int .i64 x11, .int .i64 x12, cv] 26] (by decide) rfl (by decide) rfl ?_
    refine Mx.l rfl (Lo.buildM (s := 1) encZ [x0, x1, x2, x3, x4, x5] [(0, .int .i64 x0), (1, .int .i64 x1), (2, .int .i64 x2), (3, .int .i64 x3), (4, .int .i64 x4), (5, .int .i64 x5)] (by exact Tryd.runUnderlying30) (by exact Tryd.sizeOf3) (by exact Tryd.zeroValue3) rfl rfl rfl (by kernel_rfl) rfl rfl) rfl ?_
    rintro V4 _ rfl
    refine MxK.go [2] [0] [var g1 [.int .i64 x0, .int .i64 x1, .int .i64 x2, .int .i64 x3, .int .i64 x4, .int .i64 x5, .int .i64 x6, .int .i64 x7, .int .i64 x8, .int .i64 x9, .int .i64 x10, .int .i64 x11, .int .i64 x12, cv] 26] (by decide) rfl (by decide) rfl ?_
    refine Mx.l rfl (Lo.appendM (s := 1) 0 (by exact Tryd.underlying30) (by exact (info3).1) (by exact (info3).2.1) (by exact (info3).2.2.1) (by exact (info3).2.2.2) rfl rfl rfl rfl rfl (Src.row 1 rfl) encZ.one (by first | decide | (simp only [List.length_cons, List.length_nil]; omega)) (by first | decide | (simp only [List.length_cons, List.length_nil]; omega))) rfl ?_
    rintro V5 _ rfl
    refine MxK.go [2] [0] [var g1 [.int .i64 x0, .int .i64 x1, .int .i64 x2, .int .i64 x3, .int .i64 x4, .int .i64 x5, .int .i64 x6, .int .i64 x7, .int .i64 x8, .int .i64 x9, .int .i64 x10, .int .i64 x11, .int .i64 x12, cv] 26] (by decide) rfl (by decide) rfl ?_
    refine Mx.p rfl (Pu.assign rfl) rfl ?_
    refine Mx.nil ?_
    exact J.ret (Fin.ret (rs := [.tmp 2]) rfl [_] ⟨rfl, trivial⟩ [0] (by decide) [row V5 3 1 ((([x0, x1, x2, x3, x4, x5]) ++ ([x6, x7, x8, x9, x10, x11, x12])).map encZ)] rfl rfl)
  ·
    refine A.mix [(0, false), (1, false), (2, false), (3, false), (4, false), (5, false), (6, false), (7, false), (8, false), (9, false), (10, false), (11, false), (13, false), (14, false), (12, true), (15, true), (16, true), (17, false)] [0] [var g1 [.int .i64 x0, .int .i64 x1, .int .i64 x2, .int .i64 x3, .int .i64 x4, .int .i64 x5, .int .i64 x6, .int .i64 x7, .int .i64 x8, .int .i64 x9, .int .i64 x10, .int .i64 x11, .int .i64 x12, cv] 26] (by kernel_rfl) (by decide) rfl ?_
    refine Mx.p rfl (Pu.fieldAddr (off' := 0) Tryd.runUnderlying26 rfl Tryd.sizeOf3 rfl rfl rfl) rfl ?_
    refine Mx.q rfl (Qt.ld rfl (Cel.var 0 rfl) (o := 0) (off := 0) rfl (Cut.one Tryd.isAgg3 rfl)) rfl ?_
    refine Mx.p rfl (Pu.fieldAddr (off' := 1) Tryd.runUnderlying26 rfl Tryd.sizeOf3 rfl rfl rfl) rfl ?_
    refine Mx.q rfl (Qt.ld rfl (Cel.var 0 rfl) (o := 0) (off := 1) rfl (Cut.one Tryd.isAgg3 rfl)) rfl ?_
    refine Mx.p rfl (Pu.fieldAddr (off' := 2) Tryd.runUnderlying26 rfl Tryd.sizeOf3 rfl rfl rfl) rfl ?_
    refine Mx.q rfl (Qt.ld rfl (Cel.var 0 rfl) (o := 0) (off := 2) rfl (Cut.one Tryd.isAgg3 rfl)) rfl ?_
    refine Mx.p rfl (Pu.fieldAddr (off' := 3) Tryd.runUnderlying26 rfl Tryd.sizeOf3 rfl rfl rfl) rfl ?_
    refine Mx.q rfl (Qt.ld rfl (Cel.var 0 rfl) (o := 0) (off := 3) rfl (Cut.one Tryd.isAgg3 rfl)) rfl ?_
    refine Mx.p rfl (Pu.fieldAddr (off' := 4) Tryd.runUnderlying26 rfl Tryd.sizeOf3 rfl rfl rfl) rfl ?_
    refine Mx.q rfl (Qt.ld rfl (Cel.var 0 rfl) (o := 0) (off := 4) rfl (Cut.one Tryd.isAgg3 rfl)) rfl ?_
    refine Mx.p rfl (Pu.fieldAddr (off' := 5) Tryd.runUnderlying26 rfl Tryd.sizeOf3 rfl rfl rfl) rfl ?_
    refine Mx.q rfl (Qt.ld rfl (Cel.var 0 rfl) (o := 0) (off := 5) rfl (Cut.one Tryd.isAgg3 rfl)) rfl ?_
    refine Mx.p rfl (Pu.fieldAddr (off' := 6) Tryd.runUnderlying26 rfl Tryd.sizeOf23 rfl rfl rfl) rfl ?_
    refine Mx.q rfl (Qt.ld rfl (Cel.var 0 rfl) (o := 0) (off := 6) rfl (Cut.agg [.int .i64 x6, .int .i64 x7, .int .i64 x8, .int .i64 x9, .int .i64 x10, .int .i64 x11, .int .i64 x12] Tryd.isAgg23 Tryd.sizeOf23 rfl rfl)) rfl ?_
    refine Mx.l rfl (Lo.buildM (s := 1) encZ [x0, x1, x2, x3, x4, x5] [(0, .int .i64 x0), (1, .int .i64 x1), (2, .int .i64 x2), (3, .int .i64 x3), (4, .int .i64 x4), (5, .int .i64 x5)] (by exact Tryd.runUnderlying30) (by exact Tryd.sizeOf3) (by exact Tryd.zeroValue3) rfl rfl rfl (by kernel_rfl) rfl rfl) rfl ?_
    rintro V6 _ rfl
    refine MxK.go [1] [0] [var g1 [.int .i64 x0, .int .i64 x1, .int .i64 x2, .int .i64 x3, .int .i64 x4, .int .i64 x5, .int .i64 x6, .int .i64 x7, .int .i64 x8, .int .i64 x9, .int .i64 x10, .int .i64 x11, .int .i64 x12, cv] 26] (by decide) rfl (by decide) rfl ?_
    refine Mx.l rfl (Lo.call [.agg #[.int .i64 x6, .int .i64 x7, .int .i64 x8, .int .i64 x9, .int .i64 x10, .int .i64 x11, .int .i64 x12]] (by exact Tryd.call74) rfl (kn_Values x6 x7 x8 x9 x10 x11 x12) [] [0, 1] (by decide) rfl [row V6 3 1 (([x0, x1, x2, x3, x4, x5]).map encZ), var g1 [.int .i64 x0, .int .i64 x1, .int .i64 x2, .int .i64 x3, .int .i64 x4, .int .i64 x5, .int .i64 x6, .int .i64 x7, .int .i64 x8, .int .i64 x9, .int .i64 x10, .int .i64 x11, .int .i64 x12, cv] 26] rfl RoOk.nil) rfl ?_
    rintro v7 _ ⟨_, rfl, rfl⟩
    refine MxK.go [2] [0] [var g1 [.int .i64 x0, .int .i64 x1, .int .i64 x2, .int .i64 x3, .int .i64 x4, .int .i64 x5, .int .i64 x6, .int .i64 x7, .int .i64 x8, .int .i64 x9, .int .i64 x10, .int .i64 x11, .int .i64 x12, cv] 26] (by decide) rfl (by decide) rfl ?_
    refine Mx.l rfl (Lo.appendM (s := 1) 1 (by exact Tryd.underlying30) (by exact (info3).1) (by exact (info3).2.1) (by exact (info3).2.2.1) (by exact (info3).2.2.2) rfl rfl rfl rfl rfl (Src.row 0 rfl) encZ.one (by first | decide | (simp only [List.length_cons, List.length_nil]; omega)) (by first | decide | (simp only [List.length_cons, List.length_nil]; omega))) rfl ?_
    rintro V8 _ rfl
    refine MxK.go [2] [0] [var g1 [.int .i64 x0, .int .i64 x1, .int .i64 x2, .int .i64 x3, .int .i64 x4, .int .i64 x5, .int .i64 x6, .int .i64 x7, .int .i64 x8, .int .i64 x9, .int .i64 x10, .int .i64 x11, .int .i64 x12, cv] 26] (by decide) rfl (by decide) rfl ?_
    refine Mx.p rfl (Pu.assign rfl) rfl ?_
    refine Mx.nil ?_
    exact J.ret (Fin.ret (rs := [.tmp 2]) rfl [_] ⟨rfl, trivial⟩ [1] (by decide) [row V8 3 1 ((([x0, x1, x2, x3, x4, x5]) ++ ([x6, x7, x8, x9, x10, x11, x12])).map encZ)] rfl rfl)

set_option maxRecDepth 100000 in
theorem r28_numbers (x0 x1 x2 x3 x4 x5 x6 x7 x8 x9 x10 x11 x12 : Int) (cv : Value) (cs : List Cl) : Tri Tryd.prog 44 #[.agg #[.int .i64 x0, .int .i64 x1, .int .i64 x2, .int .i64 x3, .int .i64 x4, .int .i64 x5, .int .i64 x6, .int .i64 x7, .int .i64 x8, .int .i64 x9, .int .i64 x10, .int .i64 x11, .int .i64 x12, cv]] [rd cv 4 (cs.map Cl.cells)] [] (fun v L' => L' = [row v 3 1 ([x0, x1, x2, x3, x4, x5, x6, x7, x8, x9, x10, x11, x12].map encZ)]) := by
  refine Tri.enter (args := [.agg #[.int .i64 x0, .int .i64 x1, .int .i64 x2, .int .i64 x3, .int .i64 x4, .int .i64 x5, .int .i64 x6, .int .i64 x7, .int .i64 x8, .int .i64 x9, .int .i64 x10, .int .i64 x11, .int .i64 x12, cv]]) (body := _) 22 Tryd.func44 rfl Tryd.ntmps44 rfl ?_
  intro w0
  refine J.seq ?_
  refine J.region ?_
  refine O.one (Src.ro 0 rfl) (fun hV2 => ?_)
  refine O.l (Lo.box [.int .i64 x0, .int .i64 x1, .int .i64 x2, .int .i64 x3, .int .i64 x4, .int .i64 x5, .int .i64 x6, .int .i64 x7, .int .i64 x8, .int .i64 x9, .int .i64 x10, .int .i64 x11, .int .i64 x12, cv] rfl rfl) rfl ?_
  rintro _ _ ⟨g1, rfl, rfl⟩
  refine O.p (Pu.assign rfl) rfl ?_
  refine O.nil ?_
  refine J.seq ?_
  refine J.region ?_
  refine O.p (Pu.fieldAddr (off' := 0) Tryd.runUnderlying26 rfl Tryd.sizeOf3 rfl rfl rfl) rfl ?_
  refine O.q (Qt.ld rfl (Cel.var 0 rfl) (o := 0) (off := 0) rfl (Cut.one Tryd.isAgg3 rfl)) rfl ?_
  refine O.p (Pu.fieldAddr (off' := 1) Tryd.runUnderlying26 rfl Tryd.sizeOf3 rfl rfl rfl) rfl ?_
  refine O.q (Qt.ld rfl (Cel.var 0 rfl) (o := 0) (off := 1) rfl (Cut.one Tryd.isAgg3 rfl)) rfl ?_
  refine O.p (Pu.fieldAddr (off' := 2) Tryd.runUnderlying26 rfl Tryd.sizeOf3 rfl rfl rfl) rfl ?_
  refine O.q (Qt.ld rfl (Cel.var 0 rfl) (o := 0) (off := 2) rfl (Cut.one Tryd.isAgg3 rfl)) rfl ?_
  refine O.p (Pu.fieldAddr (off' := 3) Tryd.runUnderlying26 rfl Tryd.sizeOf3 rfl rfl rfl) rfl ?_
  refine O.q (Qt.ld rfl (Cel.var 0 rfl) (o := 0) (off := 3) rfl (Cut.one Tryd.isAgg3 rfl)) rfl ?_
  refine O.p (Pu.fieldAddr (off' := 4) Tryd.runUnderlying26 rfl Tryd.sizeOf3 rfl rfl rfl) rfl ?_
  refine O.q (Qt.ld rfl (Cel.var 0 rfl) (o := 0) (off := 4) rfl (Cut.one Tryd.isAgg3 rfl)) rfl ?_
  refine O.p (Pu.fieldAddr (off' := 5) Tryd.runUnderlying26 rfl Tryd.sizeOf3 rfl rfl rfl) rfl ?_
  refine O.q (Qt.ld rfl (Cel.var 0 rfl) (o := 0) (off := 5) rfl (Cut.one Tryd.isAgg3 rfl)) rfl ?_
  refine O.l (Lo.buildM (s := 1) encZ [x0, x1, x2, x3, x4, x5] [(0, .int .i64 x0), (1, .int .i64 x1), (2, .int .i64 x2), (3, .int .i64 x3), (4, .int .i64 x4), (5, .int .i64 x5)] (by exact Tryd.runUnderlying30) (by exact Tryd.sizeOf3) (by exact Tryd.zeroValue3) rfl rfl rfl (by kernel_rfl) rfl rfl) rfl ?_
  rintro V3 _ rfl
  refine O.p (Pu.assign rfl) rfl ?_
  refine O.nil ?_
  refine J.seq ?_
  refine J.region ?_
  refine O.p (Pu.move rfl) rfl ?_
  refine O.p (Pu.fieldAddr (off' := 6) Tryd.runUnderlying26 rfl Tryd.sizeOf23 rfl rfl rfl) rfl ?_
  refine O.q (Qt.ld rfl (Cel.var 1 rfl) (o := 0) (off := 6) rfl (Cut.agg [.int .i64 x6, .int .i64 x7, .int .i64 x8, .int .i64 x9, .int .i64 x10, .int .i64 x11, .int .i64 x12] Tryd.isAgg23 Tryd.sizeOf23 rfl rfl)) rfl ?_
  refine O.l (Lo.call [.agg #[.int .i64 x6, .int .i64 x7, .int .i64 x8, .int .i64 x9, .int .i64 x10, .int .i64 x11, .int .i64 x12]] (by exact Tryd.call75) rfl (r18_Values x6 x7 x8 x9 x10 x11 x12) [] [0, 1] (by decide) rfl [row V3 3 1 (([x0, x1, x2, x3, x4, x5]).map encZ), var g1 [.int .i64 x0, .int .i64 x1, .int .i64 x2, .int .i64 x3, .int .i64 x4, .int .i64 x5, .int .i64 x6, .int .i64 x7, .int .i64 x8, .int .i64 x9, .int .i64 x10, .int .i64 x11, .int .i64 x12, cv] 26] rfl RoOk.nil) rfl ?_
  rintro v4 _ ⟨_, rfl, rfl⟩
  refine O.l (Lo.appendM (s := 1) 1 (by exact Tryd.underlying30) (by exact (info3).1) (by exact (info3).2.1) (by exact (info3).2.2.1) (by exact (info3).2.2.2) rfl rfl rfl rfl rfl (Src.row 0 rfl) encZ.one (by first | decide | (simp only [List.length_cons, List.length_nil]; omega)) (by first | decide | (simp only [List.length_cons, List.length_nil]; omega))) rfl ?_
  rintro V5 _ rfl
  refine O.p (Pu.assign rfl) rfl ?_
  refine O.nil ?_
  exact J.ret (Fin.ret (rs := [.tmp 2]) rfl [_] ⟨rfl, trivial⟩ [1] (by decide) [row V5 3 1 ((([x0, x1, x2, x3, x4, x5]) ++ ([x6, x7, x8, x9, x10, x11, x12])).map encZ)] rfl rfl)

set_option maxRecDepth 100000 in
theorem sl_HasPrefix (s p : List UInt8) : Tri Tryd.prog 94 #[str s, str p] [] [] (fun v L' => v = .bool (Cf.hasP p s) ∧ L' = []) := by
  refine Tri.enter (args := [str s, str p]) (body := _) 18 Tryd.func94 rfl Tryd.ntmps94 rfl ?_
  intro w0
  refine J.seq ?_
  refine J.region ?_
  refine O.p (Pu.assign rfl) rfl ?_
  refine O.nil ?_
  refine J.seq ?_
  refine J.region ?_
  refine O.p (Pu.move rfl) rfl ?_
  refine O.p (Pu.sLen Tryd.runUnderlying9 rfl) rfl ?_
  refine O.p (Pu.move rfl) rfl ?_
  refine O.p (Pu.sLen Tryd.runUnderlying9 rfl) rfl ?_
  refine O.p (Pu.geq rfl rfl) rfl ?_
  refine O.p (Pu.move rfl) rfl ?_
  refine by_bool (decide ((p.length : Int) ≤ (s.length : Int))) (fun h1 => ?_) (fun h1 => ?_)
  ·
    have p2 := of_decide_eq_true h1
    refine O.gq (t := 10) rfl rfl h1 rfl (Pu.qt (Pu.move rfl)) rfl ?_
    refine O.gq (t := 10) rfl rfl h1 rfl (Pu.qt (Pu.move rfl)) rfl ?_
    refine O.gq (t := 10) rfl rfl h1 rfl (Pu.qt (Pu.sLen Tryd.runUnderlying9 rfl)) rfl ?_
    refine O.gq (t := 10) rfl rfl h1 rfl (Pu.qt (Pu.sHead Tryd.runUnderlying9 rfl rfl (by first | omega | (simp only [List.length_append, List.length_cons, List.length_nil, List.length_set]; omega)) (by first | omega | (simp only [List.length_append, List.length_cons, List.length_nil, List.length_set]; omega)))) rfl ?_
    refine O.gq (t := 10) rfl rfl h1 rfl (Pu.qt (Pu.move rfl)) rfl ?_
    refine O.gq (t := 10) rfl rfl h1 rfl (Pu.qt (Pu.sEql rfl rfl)) rfl ?_
    refine O.p (Pu.pickT rfl h1 rfl) rfl ?_
    refine O.p (Pu.assign rfl) rfl ?_
    refine O.nil ?_
    exact J.ret (Fin.ret (rs := [.tmp 4]) rfl [_] ⟨rfl, trivial⟩ [] (by decide) [] rfl ⟨(by first | (rw [Cf.hasP_of (by omega), ← Int.toNat_natCast p.length]; rfl) | (rw [Cf.hasP_short (by omega)]; rfl)), rfl⟩)
  ·
    have p3 := of_decide_eq_false h1
    refine O.gskip (t := 10) rfl rfl (no_bool (by rw [h1]; decide)) rfl rfl ?_
    refine O.gskip (t := 10) rfl rfl (no_bool (by rw [h1]; decide)) rfl rfl ?_
    refine O.gskip (t := 10) rfl rfl (no_bool (by rw [h1]; decide)) rfl rfl ?_
    refine O.gskip (t := 10) rfl rfl (no_bool (by rw [h1]; decide)) rfl rfl ?_
    refine O.gskip (t := 10) rfl rfl (no_bool (by rw [h1]; decide)) rfl rfl ?_
    refine O.gskip (t := 10) rfl rfl (no_bool (by rw [h1]; decide)) rfl rfl ?_
    refine O.p (Pu.pickF rfl h1 rfl) rfl ?_
    refine O.p (Pu.assign rfl) rfl ?_
    refine O.nil ?_
    exact J.ret (Fin.ret (rs := [.tmp 4]) rfl [_] ⟨rfl, trivial⟩ [] (by decide) [] rfl ⟨(by first | (rw [Cf.hasP_of (by omega), ← Int.toNat_natCast p.length]; rfl) | (rw [Cf.hasP_short (by omega)]; rfl)), rfl⟩)

set_option maxRecDepth 100000 in
theorem sl_CutPrefix (s p : List UInt8) : Tri Tryd.prog 70 #[str s, str p] [] [] (fun v L' => v = .tuple #[str (Cf.cutPre s p).1, .bool (Cf.cutPre s p).2] ∧ L' = []) := by
  refine Tri.enter (args := [str s, str p]) (body := _) 15 Tryd.func70 rfl Tryd.ntmps70 rfl ?_
  intro w0
  refine J.seq ?_
  refine J.region ?_
  refine O.p (Pu.assign rfl) rfl ?_
  refine O.p (Pu.assign rfl) rfl ?_
  refine O.nil ?_
  refine J.seq ?_
  refine J.seq ?_
  refine J.region ?_
  refine O.p (Pu.move rfl) rfl ?_
  refine O.p (Pu.move rfl) rfl ?_
  refine O.l (Lo.call [str s, str p] (by exact Tryd.call94) rfl (sl_HasPrefix s p) [] [] (by decide) rfl [] rfl RoOk.nil) rfl ?_
  rintro _ _ ⟨_, ⟨rfl, rfl⟩, rfl⟩
  refine O.p (Pu.not rfl) rfl ?_
  refine O.nil ?_
  refine J.cond rfl (fun h2 => ?_) (fun h2 => ?_)
  ·
    have h3 : (Cf.hasP p s) = false := not_flip h2
    refine J.seq ?_
    refine J.region ?_
    refine O.p (Pu.move rfl) rfl ?_
    refine O.p (Pu.assign rfl) rfl ?_
    refine O.p (Pu.assign rfl) rfl ?_
    refine O.nil ?_
    exact J.ret (Fin.ret (rs := [.tmp 4, .tmp 5]) rfl [_, _] ⟨rfl, rfl, trivial⟩ [] (by decide) [] rfl ⟨(by first | (rw [Cf.cutPre_no (by assumption)]; rfl) | (rw [Cf.cutPre_yes (by assumption)]; rfl)), rfl⟩)
  ·
    have h4 : (Cf.hasP p s) = true := not_flip h2
    refine J.skip ?_
    refine J.seq ?_
    refine J.region ?_
    refine O.p (Pu.move rfl) rfl ?_
    refine O.p (Pu.move rfl) rfl ?_
    refine O.p (Pu.sLen Tryd.runUnderlying9 rfl) rfl ?_
    refine O.p (Pu.sTail Tryd.runUnderlying9 rfl rfl (by first | omega | (have h_ := Cf.hasP_len (by assumption); omega)) (by first | omega | (have h_ := Cf.hasP_len (by assumption); omega))) rfl ?_
    refine O.p (Pu.assign rfl) rfl ?_
    refine O.p (Pu.assign rfl) rfl ?_
    refine O.nil ?_
    exact J.ret (Fin.ret (rs := [.tmp 4, .tmp 5]) rfl [_, _] ⟨rfl, rfl, trivial⟩ [] (by decide) [] rfl ⟨(by first | (rw [Cf.cutPre_no (by assumption)]; rfl) | (rw [Cf.cutPre_yes (by assumption)]; rfl)), rfl⟩)

set_option maxRecDepth 100000 in
theorem s_CutPrefix (s p : List UInt8) : Tri Tryd.prog 34 #[str s, str p] [] [] (fun v L' => v = .tuple #[str (Cf.cutPre s p).1, .bool (Cf.cutPre s p).2] ∧ L' = []) := by
  refine Tri.enter (args := [str s, str p]) (body := _) 11 Tryd.func34 rfl Tryd.ntmps34 rfl ?_
  intro w0
  refine J.seq ?_
  refine J.region ?_
  refine O.p (Pu.assign rfl) rfl ?_
  refine O.p (Pu.assign rfl) rfl ?_
  refine O.nil ?_
  refine J.seq ?_
  refine J.region ?_
  refine O.p (Pu.move rfl) rfl ?_
  refine O.p (Pu.move rfl) rfl ?_
  refine O.l (Lo.call [str s, str p] (by exact Tryd.call70) rfl (sl_CutPrefix s p) [] [] (by decide) rfl [] rfl RoOk.nil) rfl ?_
  rintro _ _ ⟨_, ⟨rfl, rfl⟩, rfl⟩
  refine O.p (Pu.extract rfl rfl) rfl ?_
  refine O.p (Pu.extract rfl rfl) rfl ?_
  refine O.p (Pu.assign rfl) rfl ?_
  refine O.p (Pu.assign rfl) rfl ?_
  refine O.nil ?_
  exact J.ret (Fin.ret (rs := [.tmp 4, .tmp 5]) rfl [_, _] ⟨rfl, rfl, trivial⟩ [] (by decide) [] rfl ⟨rfl, rfl⟩)

set_option maxRecDepth 100000 in
theorem cf_Row (word : Wd.Bs) (nv : Value) (ns : List Wd.Bs) (lv : Value) (l : List Int) (hw : word.length ≤ 60000) (hns : ∀ x ∈ ns, x.length ≤ 60000) (hn : ns.length ≤ 900) (hl : l.length ≤ 900) (hI : Kn.I64s l) : Tri Tryd.prog 17 #[str word, nv, lv] [libW, rd nv 1 (ns.map encS), rd lv 1 (l.map encZ)] [] (fun v L' => v = str (Cf.row word ns l) ∧ L' = []) := by
  refine Tri.enter (args := [str word, nv, lv]) (body := _) 36 Tryd.func17 rfl Tryd.ntmps17 rfl ?_
  intro w0
  refine J.seq ?_
  refine J.region ?_
  refine O.p (Pu.assign rfl) rfl ?_
  refine O.nil ?_
  refine J.seq ?_
  refine J.region ?_
  refine O.p (Pu.move rfl) rfl ?_
  refine O.l (Lo.buildM (s := 1) encS [word] [(0, str word)] (by exact Tryd.runUnderlying27) (by exact Tryd.sizeOf9) (by exact Tryd.zeroValue9) rfl rfl rfl (by kernel_rfl) rfl rfl) rfl ?_
  rintro V1 _ rfl
  refine O.p (Pu.assign rfl) rfl ?_
  refine O.nil ?_
  refine J.seq ?_
  refine J.seq ?_
  refine J.region ?_
  refine O.p (Pu.move rfl) rfl ?_
  refine O.q (Qt.lenM Tryd.runUnderlying27 rfl (Src.ro 1 rfl)) rfl ?_
  refine O.p (Pu.move rfl) rfl ?_
  refine O.q (Qt.lenM Tryd.runUnderlying30 rfl (Src.ro 2 rfl)) rfl ?_
  refine O.p (Pu.to (Pu.min rfl rfl) (congrArg (Value.int .i64) (show (if (l.length : Int) < (ns.length : Int) then (l.length : Int) else (ns.length : Int)) = ((min ns.length l.length : Nat) : Int) from (by split <;> omega)))) rfl ?_
  refine O.p (Pu.move rfl) rfl ?_
  refine O.nil ?_
  refine J.block ?_
  refine J.loop (X := Nat × Value × List Wd.Bs) (fun ξ => ξ.1 ≤ min ns.length l.length ∧ ξ.2.2 = (Cf.rowW word ns l).take (ξ.1 + 1)) (fun ξ => [(1, nv), (2, lv), (6, str ([] : List UInt8)), (7, ξ.2.1), (15, .int .i64 ((min ns.length l.length : Nat) : Int)), (16, .int .i64 (ξ.1 : Int))]) (fun ξ => [row ξ.2.1 9 1 (ξ.2.2.map encS)]) (fun ξ => min ns.length l.length - ξ.1) ⟨0, V1, [word]⟩ (show 0 ≤ min ns.length l.length ∧ ([word]) = (Cf.rowW word ns l).take (0 + 1) from ⟨by omega, rfl⟩) ⟨rfl, rfl, rfl, rfl, rfl, (congrArg (fun z => some (Value.int .i64 z)) (by first | rfl | omega : (0 : Int) = (0 : Int))), trivial⟩ [0] (by decide) rfl ?_
  rintro ⟨k, V, out⟩ hq2
  obtain ⟨hk, hout⟩ : k ≤ min ns.length l.length ∧ out = (Cf.rowW word ns l).take (k + 1) := hq2
  show J _ _ [(1, nv), (2, lv), (6, str ([] : List UInt8)), (7, V), (15, .int .i64 ((min ns.length l.length : Nat) : Int)), (16, .int .i64 (k : Int))] [row V 9 1 (out.map encS)]
  refine J.seq ?_
  refine J.region ?_
  refine O.p (Pu.lss rfl rfl) rfl ?_
  refine O.nil ?_
  refine J.seq ?_
  refine J.cond rfl (fun h3 => ?_) (fun h3 => ?_)
  ·
    have p4 := of_decide_eq_true h3
    refine J.skip ?_
    refine J.seq ?_
    refine J.block ?_
    refine J.seq ?_
    refine J.region ?_
    refine O.p (Pu.move rfl) rfl ?_
    refine O.p (Pu.assign rfl) rfl ?_
    refine O.nil ?_
    refine J.drawMix [(0, false), (1, false), (2, false), (3, false), (4, false), (5, false), (6, false), (7, false), (8, false), (9, false), (10, false), (11, false), (12, true), (13, true), (14, false)] [] [] Tryd.mixed (by kernel_rfl) (by decide) rfl ?_
    refine Mx.p rfl (Pu.move rfl) rfl ?_
    refine Mx.p rfl (Pu.move rfl) rfl ?_
    refine Mx.p rfl (Pu.move rfl) rfl ?_
    obtain ⟨e5, he5⟩ : ∃ x_, ns[k]? = some x_ := ⟨_, List.getElem?_eq_getElem (by first | omega | (have hx_ := hI _ (List.mem_of_getElem? (by assumption)); unfold Dc.I64 at hx_; omega) | (have ho_ := congrArg List.length hout; rw [List.length_take] at ho_; simp only [List.length_append, List.length_cons, List.length_nil]; omega))⟩
    refine Mx.q rfl (Qt.idxM Tryd.runUnderlying27 Tryd.sizeOf9 rfl (Src.ro 1 rfl) rfl (by first | omega | (have hx_ := hI _ (List.mem_of_getElem? (by assumption)); unfold Dc.I64 at hx_; omega) | (have ho_ := congrArg List.length hout; rw [List.length_take] at ho_; simp only [List.length_append, List.length_cons, List.length_nil]; omega)) (by first | omega | (have hx_ := hI _ (List.mem_of_getElem? (by assumption)); unfold Dc.I64 at hx_; omega) | (have ho_ := congrArg List.length hout; rw [List.length_take] at ho_; simp only [List.length_append, List.length_cons, List.length_nil]; omega))) rfl ?_
    refine Mx.q rfl (Qt.ld rfl (Cel.eltM (Src.ro 1 rfl) he5) (o := (voff nv + k * 1)) (off := 0) (by omega) (Cut.one Tryd.isAgg9 rfl)) rfl ?_
    refine Mx.p rfl (Pu.sAdd rfl rfl (by have h1_ := hns _ (List.mem_of_getElem? (by assumption)); first | (simp only [List.length_append, List.length_cons, List.length_nil]; omega) | (have h2_ := Wd.itoa_le2 (hI _ (List.mem_of_getElem? (by assumption))); simp only [List.length_append, List.length_cons, List.length_nil]; omega))) rfl ?_
    refine Mx.p rfl (Pu.move rfl) rfl ?_
    refine Mx.p rfl (Pu.move rfl) rfl ?_
    obtain ⟨e6, he6⟩ : ∃ x_, l[k]? = some x_ := ⟨_, List.getElem?_eq_getElem (by first | omega | (have hx_ := hI _ (List.mem_of_getElem? (by assumption)); unfold Dc.I64 at hx_; omega) | (have ho_ := congrArg List.length hout; rw [List.length_take] at ho_; simp only [List.length_append, List.length_cons, List.length_nil]; omega))⟩
    refine Mx.q rfl (Qt.idxM Tryd.runUnderlying30 Tryd.sizeOf3 rfl (Src.ro 2 rfl) rfl (by first | omega | (have hx_ := hI _ (List.mem_of_getElem? (by assumption)); unfold Dc.I64 at hx_; omega) | (have ho_ := congrArg List.length hout; rw [List.length_take] at ho_; simp only [List.length_append, List.length_cons, List.length_nil]; omega)) (by first | omega | (have hx_ := hI _ (List.mem_of_getElem? (by assumption)); unfold Dc.I64 at hx_; omega) | (have ho_ := congrArg List.length hout; rw [List.length_take] at ho_; simp only [List.length_append, List.length_cons, List.length_nil]; omega))) rfl ?_
    refine Mx.q rfl (Qt.ld rfl (Cel.eltM (Src.ro 2 rfl) he6) (o := (voff lv + k * 1)) (off := 0) (by omega) (Cut.one Tryd.isAgg3 rfl)) rfl ?_
    refine Mx.call (vs := [.int .i64 e6]) (caps := []) rfl (by exact Tryd.call45) rfl rfl (dec_Text e6 (by first | omega | (have hx_ := hI _ (List.mem_of_getElem? (by assumption)); unfold Dc.I64 at hx_; omega) | (have ho_ := congrArg List.length hout; rw [List.length_take] at ho_; simp only [List.length_append, List.length_cons, List.length_nil]; omega)) (by first | omega | (have hx_ := hI _ (List.mem_of_getElem? (by assumption)); unfold Dc.I64 at hx_; omega) | (have ho_ := congrArg List.length hout; rw [List.length_take] at ho_; simp only [List.length_append, List.length_cons, List.length_nil]; omega))) (fun _ _ h => h) (RoOk.ro 0 rfl [] rfl RoOk.nil) rfl ?_
    refine Mx.p rfl (Pu.sAdd rfl rfl (by have h1_ := hns _ (List.mem_of_getElem? (by assumption)); first | (simp only [List.length_append, List.length_cons, List.length_nil]; omega) | (have h2_ := Wd.itoa_le2 (hI _ (List.mem_of_getElem? (by assumption))); simp only [List.length_append, List.length_cons, List.length_nil]; omega))) rfl ?_
    refine Mx.l rfl (Lo.buildM (s := 1) encS [(e5 ++ ([61])) ++ (Lib.itoa e6)] [(0, str ((e5 ++ ([61])) ++ (Lib.itoa e6)))] (by exact Tryd.runUnderlying27) (by exact Tryd.sizeOf9) (by exact Tryd.zeroValue9) rfl rfl rfl (by kernel_rfl) rfl rfl) rfl ?_
    rintro V7 _ rfl
    refine MxK.go [] [] [] (by decide) rfl (by decide) rfl ?_
    refine Mx.l rfl (Lo.appendM (s := 1) 1 (by exact Tryd.underlying27) (by exact (info9).1) (by exact (info9).2.1) (by exact (info9).2.2.1) (by exact (info9).2.2.2) rfl rfl rfl rfl rfl (Src.row 0 rfl) encS.one (by first | omega | (have hx_ := hI _ (List.mem_of_getElem? (by assumption)); unfold Dc.I64 at hx_; omega) | (have ho_ := congrArg List.length hout; rw [List.length_take] at ho_; simp only [List.length_append, List.length_cons, List.length_nil]; omega)) (by first | omega | (have hx_ := hI _ (List.mem_of_getElem? (by assumption)); unfold Dc.I64 at hx_; omega) | (have ho_ := congrArg List.length hout; rw [List.length_take] at ho_; simp only [List.length_append, List.length_cons, List.length_nil]; omega))) rfl ?_
    rintro V8 _ rfl
    refine MxK.go [] [] [] (by decide) rfl (by decide) rfl ?_
    refine Mx.p rfl (Pu.assign rfl) rfl ?_
    refine Mx.nil ?_
    refine J.blk ?_
    refine J.region ?_
    refine O.p (Pu.add' rfl rfl (by first | omega | (simp only [List.length_append, List.length_cons, List.length_nil, List.length_set]; omega))) rfl ?_
    refine O.p (Pu.move rfl) rfl ?_
    refine O.nil ?_
    exact J.lp ⟨k + 1, V8, out ++ ([(e5 ++ ([61])) ++ (Lib.itoa e6)])⟩ (show (k + 1) ≤ min ns.length l.length ∧ (out ++ ([(e5 ++ ([61])) ++ (Lib.itoa e6)])) = (Cf.rowW word ns l).take ((k + 1) + 1) from ⟨by omega, (by rw [hout]; exact (Cf.rowW_next he5 he6).symm)⟩) (show min ns.length l.length - (k + 1) < min ns.length l.length - k from (by first | omega | (have hx_ := hI _ (List.mem_of_getElem? (by assumption)); unfold Dc.I64 at hx_; omega) | (have ho_ := congrArg List.length hout; rw [List.length_take] at ho_; simp only [List.length_append, List.length_cons, List.length_nil]; omega))) ⟨rfl, rfl, rfl, rfl, rfl, (congrArg (fun z => some (Value.int .i64 z)) (by first | rfl | omega : ((k : Int) + 1 : Int) = ((k + 1) : Int))), trivial⟩ [1] (by decide) rfl
  ·
    have p9 := of_decide_eq_false h3
    refine J.exit _ rfl ?_
    refine J.seq ?_
    refine J.region ?_
    refine O.p (Pu.move rfl) rfl ?_
    refine O.l (Lo.call [V] (by exact Tryd.call46) rfl (w_Join V out (by rw [hout]; simp [Cf.rowW]) (by rw [hout, List.length_take, Cf.rowW_len]; omega) (by intro x_ hx_; rw [hout] at hx_; have h_ := Cf.rowW_le hw hns hI x_ (List.mem_of_mem_take hx_); omega)) [] [0] (by decide) rfl [row V 9 1 (out.map encS)] rfl (RoOk.of 0 rfl row_rd [] (by decide) rfl RoOk.nil)) rfl ?_
    rintro _ _ ⟨_, ⟨rfl, rfl⟩, rfl⟩
    refine O.p (Pu.assign rfl) rfl ?_
    refine O.nil ?_
    exact J.ret (Fin.ret (rs := [.tmp 6]) rfl [_] ⟨rfl, trivial⟩ [] (by decide) [] rfl ⟨(by rw [hout, Cf.rowW_all (by omega)]; rfl), rfl⟩)

set_option maxRecDepth 100000 in
theorem r28_Row (word : Wd.Bs) (nv : Value) (ns : List Wd.Bs) (lv : Value) (l : List Int) (hw : word.length ≤ 60000) (hns : ∀ x ∈ ns, x.length ≤ 60000) (hn : ns.length ≤ 900) (hl : l.length ≤ 900) (hI : Kn.I64s l) : Tri Tryd.prog 18 #[str word, nv, lv] [rd nv 1 (ns.map encS), rd lv 1 (l.map encZ)] [] (fun v L' => v = str (Cf.row word ns l) ∧ L' = []) := by
  refine Tri.enter (args := [str word, nv, lv]) (body := _) 37 Tryd.func18 rfl Tryd.ntmps18 rfl ?_
  intro w0
  refine J.seq ?_
  refine J.region ?_
  refine O.p (Pu.assign rfl) rfl ?_
  refine O.nil ?_
  refine J.seq ?_
  refine J.region ?_
  refine O.p (Pu.move rfl) rfl ?_
  refine O.p (Pu.assign rfl) rfl ?_
  refine O.nil ?_
  refine J.seq ?_
  refine J.seq ?_
  refine J.region ?_
  refine O.p (Pu.assign rfl) rfl ?_
  refine O.nil ?_
  refine J.block ?_
  refine J.loop (X := Nat × Wd.Bs) (fun ξ => ξ.1 ≤ min ns.length l.length ∧ ξ.2 = Cf.rowK word ns l ξ.1) (fun ξ => [(1, nv), (2, lv), (6, str ([] : List UInt8)), (7, str ξ.2), (8, .int .i64 (ξ.1 : Int))]) (fun ξ => []) (fun ξ => min ns.length l.length - ξ.1) ⟨0, word⟩ (show 0 ≤ min ns.length l.length ∧ word = Cf.rowK word ns l 0 from ⟨by omega, Cf.rowK_zero.symm⟩) ⟨rfl, rfl, rfl, rfl, (congrArg (fun z => some (Value.int .i64 z)) (by first | rfl | omega : (0 : Int) = (0 : Int))), trivial⟩ [] (by decide) rfl ?_
  rintro ⟨k, t⟩ hq1
  obtain ⟨hk, ht⟩ : k ≤ min ns.length l.length ∧ t = Cf.rowK word ns l k := hq1
  show J _ _ [(1, nv), (2, lv), (6, str ([] : List UInt8)), (7, str t), (8, .int .i64 (k : Int))] []
  refine J.seq ?_
  refine J.seq ?_
  refine J.region ?_
  refine O.p (Pu.move rfl) rfl ?_
  refine O.p (Pu.move rfl) rfl ?_
  refine O.q (Qt.lenM Tryd.runUnderlying27 rfl (Src.ro 0 rfl)) rfl ?_
  refine O.p (Pu.lss rfl rfl) rfl ?_
  refine O.p (Pu.move rfl) rfl ?_
  refine by_bool (decide ((k : Int) < (ns.length : Int))) (fun h2 => ?_) (fun h2 => ?_)
  ·
    have p3 := of_decide_eq_true h2
    refine O.gq (t := 14) rfl rfl h2 rfl (Pu.qt (Pu.move rfl)) rfl ?_
    refine O.gq (t := 14) rfl rfl h2 rfl (Pu.qt (Pu.move rfl)) rfl ?_
    refine O.gq (t := 14) rfl rfl h2 rfl (Qt.lenM Tryd.runUnderlying30 rfl (Src.ro 1 rfl)) rfl ?_
    refine O.gq (t := 14) rfl rfl h2 rfl (Pu.qt (Pu.lss rfl rfl)) rfl ?_
    refine O.p (Pu.pickT rfl h2 rfl) rfl ?_
    refine O.nil ?_
    refine J.cond rfl (fun h4 => ?_) (fun h4 => ?_)
    ·
      have p5 := of_decide_eq_true h4
      refine J.skip ?_
      refine J.seq ?_
      refine J.block ?_
      refine J.drawHead 14 Tryd.mixed (by kernel_rfl) ?_
      refine Hd.p (Pu.move rfl) rfl ?_
      refine Hd.p (Pu.sAdd rfl rfl (by have h_ := Cf.rowK_len hw hns hI k; rw [← ht] at h_; first | (simp only [List.length_append, List.length_cons, List.length_nil]; omega) | (have h1_ := hns _ (List.mem_of_getElem? (by assumption)); first | (simp only [List.length_append, List.length_cons, List.length_nil]; omega) | (have h2_ := Wd.itoa_le2 (hI _ (List.mem_of_getElem? (by assumption))); simp only [List.length_append, List.length_cons, List.length_nil]; omega)))) rfl ?_
      refine Hd.p (Pu.move rfl) rfl ?_
      refine Hd.p (Pu.move rfl) rfl ?_
      obtain ⟨e6, he6⟩ : ∃ x_, ns[k]? = some x_ := ⟨_, List.getElem?_eq_getElem (by omega)⟩
      refine Hd.q (Qt.idxM Tryd.runUnderlying27 Tryd.sizeOf9 rfl (Src.ro 0 rfl) rfl (by omega) (by omega)) rfl ?_
      refine Hd.q (Qt.ld rfl (Cel.eltM (Src.ro 0 rfl) he6) (o := (voff nv + k * 1)) (off := 0) (by omega) (Cut.one Tryd.isAgg9 rfl)) rfl ?_
      refine Hd.p (Pu.sAdd rfl rfl (by have h_ := Cf.rowK_len hw hns hI k; rw [← ht] at h_; first | (simp only [List.length_append, List.length_cons, List.length_nil]; omega) | (have h1_ := hns _ (List.mem_of_getElem? (by assumption)); first | (simp only [List.length_append, List.length_cons, List.length_nil]; omega) | (have h2_ := Wd.itoa_le2 (hI _ (List.mem_of_getElem? (by assumption))); simp only [List.length_append, List.length_cons, List.length_nil]; omega)))) rfl ?_
      refine Hd.p (Pu.sAdd rfl rfl (by have h_ := Cf.rowK_len hw hns hI k; rw [← ht] at h_; first | (simp only [List.length_append, List.length_cons, List.length_nil]; omega) | (have h1_ := hns _ (List.mem_of_getElem? (by assumption)); first | (simp only [List.length_append, List.length_cons, List.length_nil]; omega) | (have h2_ := Wd.itoa_le2 (hI _ (List.mem_of_getElem? (by assumption))); simp only [List.length_append, List.length_cons, List.length_nil]; omega)))) rfl ?_
      refine Hd.p (Pu.move rfl) rfl ?_
      refine Hd.p (Pu.move rfl) rfl ?_
      obtain ⟨e7, he7⟩ : ∃ x_, l[k]? = some x_ := ⟨_, List.getElem?_eq_getElem (by omega)⟩
      refine Hd.q (Qt.idxM Tryd.runUnderlying30 Tryd.sizeOf3 rfl (Src.ro 1 rfl) rfl (by omega) (by omega)) rfl ?_
      refine Hd.q (Qt.ld rfl (Cel.eltM (Src.ro 1 rfl) he7) (o := (voff lv + k * 1)) (off := 0) (by omega) (Cut.one Tryd.isAgg3 rfl)) rfl ?_
      refine Hd.call (vs := [.int .i64 e7]) (caps := []) (by exact Tryd.call47) rfl rfl (r05_Text e7 (by exact hI _ (List.mem_of_getElem? (by assumption)))) (fun _ _ h => h) RoOk.nil rfl ?_
      refine Hd.p (Pu.sAdd rfl rfl (by have h_ := Cf.rowK_len hw hns hI k; rw [← ht] at h_; first | (simp only [List.length_append, List.length_cons, List.length_nil]; omega) | (have h1_ := hns _ (List.mem_of_getElem? (by assumption)); first | (simp only [List.length_append, List.length_cons, List.length_nil]; omega) | (have h2_ := Wd.itoa_le2 (hI _ (List.mem_of_getElem? (by assumption))); simp only [List.length_append, List.length_cons, List.length_nil]; omega)))) rfl ?_
      refine Hd.nil ?_
      refine O.p (Pu.assign rfl) rfl ?_
      refine O.nil ?_
      refine J.blk ?_
      refine J.region ?_
      refine O.p (Pu.move rfl) rfl ?_
      refine O.p (Pu.add' rfl rfl (by first | omega | (simp only [List.length_append, List.length_cons, List.length_nil, List.length_set]; omega))) rfl ?_
      refine O.p (Pu.assign rfl) rfl ?_
      refine O.nil ?_
      exact J.lp ⟨k + 1, (((t ++ ([32])) ++ e6) ++ ([61])) ++ (Lib.itoa e7)⟩ (show (k + 1) ≤ min ns.length l.length ∧ ((((t ++ ([32])) ++ e6) ++ ([61])) ++ (Lib.itoa e7)) = Cf.rowK word ns l (k + 1) from ⟨by omega, (by rw [ht]; exact (Cf.rowK_next he6 he7).symm)⟩) (show min ns.length l.length - (k + 1) < min ns.length l.length - k from (by omega)) ⟨rfl, rfl, rfl, rfl, (congrArg (fun z => some (Value.int .i64 z)) (by first | rfl | omega : ((k : Int) + 1 : Int) = ((k + 1) : Int))), trivial⟩ [] (by decide) rfl
    ·
      have p8 := of_decide_eq_false h4
      refine J.exit _ rfl ?_
      refine J.seq ?_
      refine J.region ?_
      refine O.p (Pu.move rfl) rfl ?_
      refine O.p (Pu.assign rfl) rfl ?_
      refine O.nil ?_
      exact J.ret (Fin.ret (rs := [.tmp 6]) rfl [_] ⟨rfl, trivial⟩ [] (by decide) [] rfl ⟨(by rw [ht, Cf.rowK_all (by omega)]; rfl), rfl⟩)
  ·
    have p9 := of_decide_eq_false h2
    refine O.gskip (t := 14) rfl rfl (no_bool (by rw [h2]; decide)) rfl rfl ?_
    refine O.gskip (t := 14) rfl rfl (no_bool (by rw [h2]; decide)) rfl rfl ?_
    refine O.gskip (t := 14) rfl rfl (no_bool (by rw [h2]; decide)) rfl rfl ?_
    refine O.gskip (t := 14) rfl rfl (no_bool (by rw [h2]; decide)) rfl rfl ?_
    refine O.p (Pu.pickF rfl h2 rfl) rfl ?_
    refine O.nil ?_
    refine J.condF rfl rfl ?_
    refine J.exit _ rfl ?_
    refine J.seq ?_
    refine J.region ?_
    refine O.p (Pu.move rfl) rfl ?_
    refine O.p (Pu.assign rfl) rfl ?_
    refine O.nil ?_
    exact J.ret (Fin.ret (rs := [.tmp 6]) rfl [_] ⟨rfl, trivial⟩ [] (by decide) [] rfl ⟨(by rw [ht, Cf.rowK_all (by omega)]; rfl), rfl⟩)

end Go.Proofs.YtilcmkegbmppnaaDoor
