/-
  Several texts in one: RX12, RX13.
-/
import Derived.KernelRfl
import Derived.Test.YtnkhmbbnabejhaaGreatDoorKX1
import Derived.Test.YtnkhmbbnabejhaaGreatDoorRX11
namespace Go.Proofs.YtnkhmbbnabejhaaGreatDoor
open Go Go.LK Go.Proofs.Tryz
set_option linter.unusedSimpArgs false

set_option maxRecDepth 100000 in
theorem lv_New (b c : Int) : Tri prog 42 #[.int .i64 b, .int .i64 c] [] [] (fun v L' => v = .tuple #[.agg #[.int .i64 (Lv.new b c).1, .int .i64 (Lv.new b c).2.1], .int .i64 (Lv.new b c).2.2] ∧ L' = []) := by
 refine Tri.enter (args := [.int .i64 b, .int .i64 c]) (body := _) 27 func42 rfl ntmps42 rfl ?_
 intro w0
 refine J.seq <| J.region <| O.l (Lo.alloc [.int .i64 0, .int .i64 0] (by exact zeroValue76) rfl) rfl ?_
 rintro _ _ ⟨g1, rfl, rfl⟩
 refine O.a rfl rfl <| O.nil <| J.seq <| J.region <| O.m rfl rfl <| O.m rfl rfl <| O.p (Pu.build [(0, .int .i64 b), (1, .int .i64 c)] [.int .i64 b, .int .i64 c] #[(0, 1), (1, 1)] runUnderlying74 zeroValue74 (places74 underlying74) rfl (by kernel_rfl)) rfl <| O.p (Pu.build [(0, .agg #[.int .i64 b, .int .i64 c])] [.int .i64 b, .int .i64 c] #[(0, 2)] runUnderlying76 zeroValue76 (places76 underlying76) rfl (by kernel_rfl)) rfl <| O.l (Lo.alloc [.int .i64 0, .int .i64 0] (by exact zeroValue76) rfl) rfl ?_
 rintro _ _ ⟨g2, rfl, rfl⟩
 refine O.l0 (Lo.store 0 (vs := [.int .i64 b, .int .i64 c]) [.int .i64 b, .int .i64 c] rfl rfl rfl (by exact sizeOf76) rfl rfl rfl rfl rfl) ?_
 rintro _ _ rfl
 refine O.nil <| J.seq <| J.seq <| J.region <| O.m rfl rfl <| O.p (Pu.lss rfl rfl) rfl <| O.m rfl rfl ?_
 refine by_bool (decide (b < 1)) (fun h3 => ?_) (fun h3 => ?_)
 ·
  have p4 := of_decide_eq_true h3
  refine O.gskip (t := 13) rfl rfl (no_bool (by rw [h3]; decide)) rfl rfl <| O.gskip (t := 13) rfl rfl (no_bool (by rw [h3]; decide)) rfl rfl <| O.p (Pu.pickT rfl h3 rfl) rfl <| O.m rfl rfl <| O.gskip (t := 17) rfl rfl (no_bool (by decide)) rfl rfl <| O.gskip (t := 17) rfl rfl (no_bool (by decide)) rfl rfl <| O.p (Pu.pickT rfl rfl rfl) rfl <| O.m rfl rfl <| O.gskip (t := 21) rfl rfl (no_bool (by decide)) rfl rfl <| O.gskip (t := 21) rfl rfl (no_bool (by decide)) rfl rfl <| O.p (Pu.pickT rfl rfl rfl) rfl <| O.nil ?_
  refine J.condT rfl rfl <| J.seq <| J.region <| O.p (Pu.build [] [.int .i64 0, .int .i64 0] #[(0, 2)] runUnderlying76 zeroValue76 (places76 underlying76) rfl (by kernel_rfl)) rfl <| O.l0 (Lo.store 1 (vs := [.int .i64 0, .int .i64 0]) [.int .i64 0, .int .i64 0] rfl rfl rfl (by exact sizeOf76) rfl rfl rfl rfl rfl) ?_
  rintro _ _ rfl
  refine O.a rfl rfl <| O.nil ?_
  exact J.ret (Fin.ret (rs := [.cell 4 76, .tmp 5]) rfl [_, _] ⟨⟨_, _, 0, 0, _, rfl, (Cel.var 1 rfl), rfl, (Cut.agg [.int .i64 0, .int .i64 0] isAgg76 sizeOf76 rfl rfl)⟩, rfl, trivial⟩ [] (by decide) [] rfl ⟨(by rw [Lv.new_no (by omega)]; rfl), rfl⟩)
 ·
  have p5 := of_decide_eq_false h3
  refine O.gq (t := 13) rfl rfl h3 rfl (Pu.qt (Pu.move rfl)) rfl <| O.gq (t := 13) rfl rfl h3 rfl (Pu.qt (Pu.gtr rfl rfl)) rfl <| O.p (Pu.pickF rfl h3 rfl) rfl <| O.m rfl rfl ?_
  refine by_bool (decide (8 < b)) (fun h6 => ?_) (fun h6 => ?_)
  ·
   have p7 := of_decide_eq_true h6
   refine O.gskip (t := 17) rfl rfl (no_bool (by rw [h6]; decide)) rfl rfl <| O.gskip (t := 17) rfl rfl (no_bool (by rw [h6]; decide)) rfl rfl <| O.p (Pu.pickT rfl h6 rfl) rfl <| O.m rfl rfl <| O.gskip (t := 21) rfl rfl (no_bool (by decide)) rfl rfl <| O.gskip (t := 21) rfl rfl (no_bool (by decide)) rfl rfl <| O.p (Pu.pickT rfl rfl rfl) rfl <| O.nil <| J.condT rfl rfl <| J.seq <| J.region <| O.p (Pu.build [] [.int .i64 0, .int .i64 0] #[(0, 2)] runUnderlying76 zeroValue76 (places76 underlying76) rfl (by kernel_rfl)) rfl ?_
   refine O.l0 (Lo.store 1 (vs := [.int .i64 0, .int .i64 0]) [.int .i64 0, .int .i64 0] rfl rfl rfl (by exact sizeOf76) rfl rfl rfl rfl rfl) ?_
   rintro _ _ rfl
   refine O.a rfl rfl <| O.nil ?_
   exact J.ret (Fin.ret (rs := [.cell 4 76, .tmp 5]) rfl [_, _] ⟨⟨_, _, 0, 0, _, rfl, (Cel.var 1 rfl), rfl, (Cut.agg [.int .i64 0, .int .i64 0] isAgg76 sizeOf76 rfl rfl)⟩, rfl, trivial⟩ [] (by decide) [] rfl ⟨(by rw [Lv.new_no (by omega)]; rfl), rfl⟩)
  ·
   have p8 := of_decide_eq_false h6
   refine O.gq (t := 17) rfl rfl h6 rfl (Pu.qt (Pu.move rfl)) rfl <| O.gq (t := 17) rfl rfl h6 rfl (Pu.qt (Pu.lss rfl rfl)) rfl <| O.p (Pu.pickF rfl h6 rfl) rfl <| O.m rfl rfl ?_
   refine by_bool (decide (c < 1)) (fun h9 => ?_) (fun h9 => ?_)
   ·
    have p10 := of_decide_eq_true h9
    refine O.gskip (t := 21) rfl rfl (no_bool (by rw [h9]; decide)) rfl rfl <| O.gskip (t := 21) rfl rfl (no_bool (by rw [h9]; decide)) rfl rfl <| O.p (Pu.pickT rfl h9 rfl) rfl <| O.nil <| J.condT rfl rfl <| J.seq <| J.region <| O.p (Pu.build [] [.int .i64 0, .int .i64 0] #[(0, 2)] runUnderlying76 zeroValue76 (places76 underlying76) rfl (by kernel_rfl)) rfl <| O.l0 (Lo.store 1 (vs := [.int .i64 0, .int .i64 0]) [.int .i64 0, .int .i64 0] rfl rfl rfl (by exact sizeOf76) rfl rfl rfl rfl rfl) ?_
    rintro _ _ rfl
    refine O.a rfl rfl <| O.nil ?_
    exact J.ret (Fin.ret (rs := [.cell 4 76, .tmp 5]) rfl [_, _] ⟨⟨_, _, 0, 0, _, rfl, (Cel.var 1 rfl), rfl, (Cut.agg [.int .i64 0, .int .i64 0] isAgg76 sizeOf76 rfl rfl)⟩, rfl, trivial⟩ [] (by decide) [] rfl ⟨(by rw [Lv.new_no (by omega)]; rfl), rfl⟩)
   ·
    have p11 := of_decide_eq_false h9
    refine O.gq (t := 21) rfl rfl h9 rfl (Pu.qt (Pu.move rfl)) rfl <| O.gq (t := 21) rfl rfl h9 rfl (Pu.qt (Pu.gtr rfl rfl)) rfl <| O.p (Pu.pickF rfl h9 rfl) rfl <| O.nil ?_
    refine J.cond rfl (fun h12 => ?_) (fun h12 => ?_)
    ·
     have p13 := of_decide_eq_true h12
     refine J.seq <| J.region <| O.p (Pu.build [] [.int .i64 0, .int .i64 0] #[(0, 2)] runUnderlying76 zeroValue76 (places76 underlying76) rfl (by kernel_rfl)) rfl <| O.l0 (Lo.store 1 (vs := [.int .i64 0, .int .i64 0]) [.int .i64 0, .int .i64 0] rfl rfl rfl (by exact sizeOf76) rfl rfl rfl rfl rfl) ?_
     rintro _ _ rfl
     refine O.a rfl rfl <| O.nil ?_
     exact J.ret (Fin.ret (rs := [.cell 4 76, .tmp 5]) rfl [_, _] ⟨⟨_, _, 0, 0, _, rfl, (Cel.var 1 rfl), rfl, (Cut.agg [.int .i64 0, .int .i64 0] isAgg76 sizeOf76 rfl rfl)⟩, rfl, trivial⟩ [] (by decide) [] rfl ⟨(by rw [Lv.new_no (by omega)]; rfl), rfl⟩)
    ·
     have p14 := of_decide_eq_false h12
     refine J.skip <| J.seq <| J.region <| O.q (Qt.ld rfl (Cel.var 0 rfl) (o := 0) (off := 0) rfl (Cut.agg [.int .i64 b, .int .i64 c] isAgg76 sizeOf76 rfl rfl)) rfl <| O.l0 (Lo.store 1 (vs := [.int .i64 b, .int .i64 c]) [.int .i64 b, .int .i64 c] rfl rfl rfl (by exact sizeOf76) rfl rfl rfl rfl rfl) ?_
     rintro _ _ rfl
     refine O.a rfl rfl <| O.nil ?_
     exact J.ret (Fin.ret (rs := [.cell 4 76, .tmp 5]) rfl [_, _] ⟨⟨_, _, 0, 0, _, rfl, (Cel.var 1 rfl), rfl, (Cut.agg [.int .i64 b, .int .i64 c] isAgg76 sizeOf76 rfl rfl)⟩, rfl, trivial⟩ [] (by decide) [] rfl ⟨(by rw [Lv.new_yes (by omega)]; rfl), rfl⟩)

set_option maxRecDepth 100000 in
theorem lv_Passes (l t : Int) : Tri prog 89 #[.int .i64 l, .int .i64 t] [] [] (fun v L' => v = .bool (Lv.passes l t) ∧ L' = []) := by
 refine Tri.enter (args := [.int .i64 l, .int .i64 t]) (body := _) 12 func89 rfl ntmps89 rfl ?_
 intro w0
 refine J.seq <| J.region <| O.a rfl rfl <| O.nil <| J.seq <| J.region <| O.m rfl rfl <| O.p (Pu.geq rfl rfl) rfl <| O.m rfl rfl ?_
 refine by_bool (decide (0 ≤ l)) (fun h1 => ?_) (fun h1 => ?_)
 ·
  have p2 := of_decide_eq_true h1
  refine O.gq (t := 7) rfl rfl h1 rfl (Pu.qt (Pu.move rfl)) rfl <| O.gq (t := 7) rfl rfl h1 rfl (Pu.qt (Pu.move rfl)) rfl <| O.gq (t := 7) rfl rfl h1 rfl (Pu.qt (Pu.lss rfl rfl)) rfl <| O.p (Pu.pickT rfl h1 rfl) rfl <| O.a rfl rfl <| O.nil ?_
  exact J.ret (Fin.ret (rs := [.tmp 4]) rfl [_] ⟨rfl, trivial⟩ [] (by decide) [] rfl ⟨(by simp [vOf, Lv.passes, *]), rfl⟩)
 ·
  have p3 := of_decide_eq_false h1
  refine O.gskip (t := 7) rfl rfl (no_bool (by rw [h1]; decide)) rfl rfl <| O.gskip (t := 7) rfl rfl (no_bool (by rw [h1]; decide)) rfl rfl <| O.gskip (t := 7) rfl rfl (no_bool (by rw [h1]; decide)) rfl rfl <| O.p (Pu.pickF rfl h1 rfl) rfl <| O.a rfl rfl <| O.nil ?_
  exact J.ret (Fin.ret (rs := [.tmp 4]) rfl [_] ⟨rfl, trivial⟩ [] (by decide) [] rfl ⟨(by simp [vOf, Lv.passes, *]), rfl⟩)

set_option maxRecDepth 100000 in
theorem lv_Levels (b c : Int) (hg : Lv.Ok b c) : Tri prog 43 #[.agg #[.int .i64 b, .int .i64 c]] [] [] (fun v L' => v = .int .i64 (b * c) ∧ L' = []) := by
 refine Tri.enter (args := [.agg #[.int .i64 b, .int .i64 c]]) (body := _) 8 func43 rfl ntmps43 rfl ?_
 intro w0
 refine J.seq <| J.region <| O.l (Lo.box [.int .i64 b, .int .i64 c] rfl rfl) rfl ?_
 rintro _ _ ⟨g1, rfl, rfl⟩
 refine O.a rfl rfl <| O.nil <| J.seq <| J.region <| O.p (Pu.fieldAddr (off' := 0) runUnderlying74 rfl sizeOf3 rfl rfl rfl) rfl <| O.q (Qt.ld rfl (Cel.var 0 rfl) (o := 0) (off := 0) rfl (Cut.one isAgg3 rfl)) rfl <| O.p (Pu.fieldAddr (off' := 1) runUnderlying74 rfl sizeOf3 rfl rfl rfl) rfl <| O.q (Qt.ld rfl (Cel.var 0 rfl) (o := 0) (off := 1) rfl (Cut.one isAgg3 rfl)) rfl <| O.p (Pu.mul' rfl rfl (by have := hg.mul; omega)) rfl <| O.a rfl rfl <| O.nil ?_
 exact J.ret (Fin.ret (rs := [.tmp 2]) rfl [_] ⟨rfl, trivial⟩ [] (by decide) [] rfl ⟨rfl, rfl⟩)

set_option maxRecDepth 100000 in
theorem lv_Split (b c l : Int) (hg : Lv.Ok b c) : Tri prog 68 #[.agg #[.int .i64 b, .int .i64 c], .int .i64 l] [] [] (fun v L' => v = .tuple #[.int .i64 (Lv.split b c l).1, .int .i64 (Lv.split b c l).2.1, .int .i64 (Lv.split b c l).2.2] ∧ L' = []) := by
 refine Tri.enter (args := [.agg #[.int .i64 b, .int .i64 c], .int .i64 l]) (body := _) 23 func68 rfl ntmps68 rfl ?_
 intro w0
 refine J.seq <| J.region <| O.l (Lo.box [.int .i64 b, .int .i64 c] rfl rfl) rfl ?_
 rintro _ _ ⟨g1, rfl, rfl⟩
 refine O.a rfl rfl <| O.a rfl rfl <| O.a rfl rfl <| O.nil <| J.seq <| J.seq <| J.region <| O.m rfl rfl <| O.p (Pu.fieldAddr (off' := 0) runUnderlying76 rfl sizeOf74 rfl rfl rfl) rfl <| O.q (Qt.ld rfl (Cel.var 0 rfl) (o := 0) (off := 0) rfl (Cut.agg [.int .i64 b, .int .i64 c] isAgg74 sizeOf74 rfl rfl)) rfl <| O.l (Lo.call [.agg #[.int .i64 b, .int .i64 c]] (by exact call43) rfl (lv_Levels b c (by first | assumption | exact Lv.new_ok)) [] [0] (by decide) rfl [var g1 [.int .i64 b, .int .i64 c] 76] rfl RoOk.nil) rfl ?_
 rintro _ _ ⟨_, ⟨rfl, rfl⟩, rfl⟩
 refine O.l (Lo.call [.int .i64 l, .int .i64 (b * c)] (by exact call89) rfl (lv_Passes l (b * c)) [] [0] (by decide) rfl [var g1 [.int .i64 b, .int .i64 c] 76] rfl RoOk.nil) rfl ?_
 rintro _ _ ⟨_, ⟨rfl, rfl⟩, rfl⟩
 refine O.p (Pu.not rfl) rfl <| O.nil ?_
 refine J.cond rfl (fun h4 => ?_) (fun h4 => ?_)
 ·
  have h5 : (Lv.passes l (b * c)) = false := not_flip h4
  refine J.seq <| J.region <| O.a rfl rfl <| O.a rfl rfl <| O.a rfl rfl <| O.nil ?_
  exact J.ret (Fin.ret (rs := [.tmp 4, .tmp 5, .tmp 6]) rfl [_, _, _] ⟨rfl, rfl, rfl, trivial⟩ [] (by decide) [] rfl ⟨(by rw [Lv.split_no ‹_›]; rfl), rfl⟩)
 ·
  have h6 : (Lv.passes l (b * c)) = true := not_flip h4
  refine J.skip <| J.seq <| J.drawStill Tryz.mixed (by kernel_rfl) <| S.m rfl rfl <| S.p (Pu.fieldAddr (off' := 0) runUnderlying76 rfl sizeOf74 rfl rfl rfl) rfl <| S.p (Pu.fieldAddr (off' := 1) runUnderlying74 rfl sizeOf3 rfl rfl rfl) rfl <| S.q (Qt.ld rfl (Cel.var 0 rfl) (o := 0) (off := 1) rfl (Cut.one isAgg3 rfl)) rfl <| S.p (Pu.quo' rfl rfl (by have h_ := hg.at ‹_›; omega) (by have h_ := hg.at ‹_›; omega) (by have h_ := hg.at ‹_›; omega)) rfl <| S.m rfl rfl <| S.p (Pu.fieldAddr (off' := 0) runUnderlying76 rfl sizeOf74 rfl rfl rfl) rfl <| S.p (Pu.fieldAddr (off' := 1) runUnderlying74 rfl sizeOf3 rfl rfl rfl) rfl <| S.q (Qt.ld rfl (Cel.var 0 rfl) (o := 0) (off := 1) rfl (Cut.one isAgg3 rfl)) rfl ?_
  refine S.p (Pu.rem' rfl rfl (by have h_ := hg.at ‹_›; omega) (by have h_ := hg.at ‹_›; omega)) rfl <| S.p (Pu.assign rfl) rfl <| S.p (Pu.assign rfl) rfl <| S.p (Pu.assign rfl) rfl <| S.endJ ?_
  exact J.ret (Fin.ret (rs := [.tmp 4, .tmp 5, .tmp 6]) rfl [_, _, _] ⟨rfl, rfl, rfl, trivial⟩ [] (by decide) [] rfl ⟨(by rw [Lv.split_yes ‹_›]; rfl), rfl⟩)

set_option maxRecDepth 100000 in
theorem lv_Text (b c l : Int) (hg : Lv.Ok b c) : Tri prog 44 #[.agg #[.int .i64 b, .int .i64 c], .int .i64 l] [libW] [] (fun v L' => v = .tuple #[str (Lv.text b c l).1, .int .i64 (Lv.text b c l).2] ∧ L' = []) := by
 refine Tri.enter (args := [.agg #[.int .i64 b, .int .i64 c], .int .i64 l]) (body := _) 25 func44 rfl ntmps44 rfl ?_
 intro w0
 refine J.seq <| J.region <| O.l (Lo.box [.int .i64 b, .int .i64 c] rfl rfl) rfl ?_
 rintro _ _ ⟨g1, rfl, rfl⟩
 refine O.a rfl rfl <| O.a rfl rfl <| O.nil <| J.seq <| J.region <| O.q (Qt.ld rfl (Cel.var 0 rfl) (o := 0) (off := 0) rfl (Cut.agg [.int .i64 b, .int .i64 c] isAgg76 sizeOf76 rfl rfl)) rfl <| O.m rfl rfl <| O.l (Lo.call [.agg #[.int .i64 b, .int .i64 c], .int .i64 l] (by exact call68) rfl (lv_Split b c l (by first | assumption | exact Lv.new_ok)) [] [0] (by decide) rfl [var g1 [.int .i64 b, .int .i64 c] 76] rfl RoOk.nil) rfl ?_
 rintro _ _ ⟨_, ⟨rfl, rfl⟩, rfl⟩
 refine O.m rfl rfl <| O.p (Pu.extract rfl rfl) rfl <| O.p (Pu.extract rfl rfl) rfl <| O.p (Pu.extract rfl rfl) rfl <| O.a rfl rfl <| O.a rfl rfl <| O.a rfl rfl <| O.nil <| J.seq <| J.seq <| J.region <| O.m rfl rfl ?_
 refine O.p (Pu.neq rfl rfl) rfl <| O.nil ?_
 refine J.cond rfl (fun h3 => ?_) (fun h3 => ?_)
 ·
  have p4 := of_decide_eq_true h3
  refine J.seq <| J.region <| O.m rfl rfl <| O.a rfl rfl <| O.a rfl rfl <| O.nil ?_
  exact J.ret (Fin.ret (rs := [.tmp 4, .tmp 5]) rfl [_, _] ⟨rfl, rfl, trivial⟩ [] (by decide) [] rfl ⟨(by rw [Lv.text_no (by omega)]; rfl), rfl⟩)
 ·
  have p5 := of_decide_eq_false h3
  refine J.skip <| J.seq <| J.region <| O.m rfl rfl <| O.l (Lo.call [.int .i64 ((Lv.split b c l).1)] (by exact call47) rfl (dec_Text ((Lv.split b c l).1) (by first | omega | (have := hg.parts l; omega)) (by first | omega | (have := hg.parts l; omega))) [] [0] (by decide) rfl [var g1 [.int .i64 b, .int .i64 c] 76] rfl (RoOk.ro 0 rfl [] rfl RoOk.nil)) rfl ?_
  rintro _ _ ⟨_, ⟨rfl, rfl⟩, rfl⟩
  refine O.p (Pu.sAdd rfl rfl (by have h_ := hg.parts l; have h1_ := Lv.itoa_len h_.1 h_.2.1; have h2_ := Lv.itoa_len h_.2.2.1 h_.2.2.2; simp only [List.length_append, List.length_cons, List.length_nil]; omega)) rfl <| O.m rfl rfl <| O.l (Lo.call [.int .i64 ((Lv.split b c l).2.1)] (by exact call47) rfl (dec_Text ((Lv.split b c l).2.1) (by first | omega | (have := hg.parts l; omega)) (by first | omega | (have := hg.parts l; omega))) [] [0] (by decide) rfl [var g1 [.int .i64 b, .int .i64 c] 76] rfl (RoOk.ro 0 rfl [] rfl RoOk.nil)) rfl ?_
  rintro _ _ ⟨_, ⟨rfl, rfl⟩, rfl⟩
  refine O.p (Pu.sAdd rfl rfl (by have h_ := hg.parts l; have h1_ := Lv.itoa_len h_.1 h_.2.1; have h2_ := Lv.itoa_len h_.2.2.1 h_.2.2.2; simp only [List.length_append, List.length_cons, List.length_nil]; omega)) rfl <| O.a rfl rfl <| O.a rfl rfl <| O.nil ?_
  exact J.ret (Fin.ret (rs := [.tmp 4, .tmp 5]) rfl [_, _] ⟨rfl, rfl, trivial⟩ [] (by decide) [] rfl ⟨(by rw [Lv.text_yes (by omega)]; rfl), rfl⟩)

set_option maxRecDepth 100000 in
theorem r08_Right (b c : Int) : Tri prog 49 #[.int .i64 b, .int .i64 c] [] [] (fun v L' => v = .bool (Lv.right b c) ∧ L' = []) := by
 refine Tri.enter (args := [.int .i64 b, .int .i64 c]) (body := _) 19 func49 rfl ntmps49 rfl ?_
 intro w0
 refine J.seq <| J.region <| O.a rfl rfl <| O.nil <| J.seq <| J.region <| O.m rfl rfl <| O.p (Pu.geq rfl rfl) rfl <| O.m rfl rfl ?_
 refine by_bool (decide (1 ≤ b)) (fun h1 => ?_) (fun h1 => ?_)
 ·
  have p2 := of_decide_eq_true h1
  refine O.gq (t := 7) rfl rfl h1 rfl (Pu.qt (Pu.move rfl)) rfl <| O.gq (t := 7) rfl rfl h1 rfl (Pu.qt (Pu.leq rfl rfl)) rfl <| O.p (Pu.pickT rfl h1 rfl) rfl <| O.m rfl rfl ?_
  refine by_bool (decide (b ≤ 8)) (fun h3 => ?_) (fun h3 => ?_)
  ·
   have p4 := of_decide_eq_true h3
   refine O.gq (t := 11) rfl rfl h3 rfl (Pu.qt (Pu.move rfl)) rfl <| O.gq (t := 11) rfl rfl h3 rfl (Pu.qt (Pu.geq rfl rfl)) rfl <| O.p (Pu.pickT rfl h3 rfl) rfl <| O.m rfl rfl ?_
   refine by_bool (decide (1 ≤ c)) (fun h5 => ?_) (fun h5 => ?_)
   ·
    have p6 := of_decide_eq_true h5
    refine O.gq (t := 15) rfl rfl h5 rfl (Pu.qt (Pu.move rfl)) rfl <| O.gq (t := 15) rfl rfl h5 rfl (Pu.qt (Pu.leq rfl rfl)) rfl <| O.p (Pu.pickT rfl h5 rfl) rfl <| O.a rfl rfl <| O.nil ?_
    exact J.ret (Fin.ret (rs := [.tmp 4]) rfl [_] ⟨rfl, trivial⟩ [] (by decide) [] rfl ⟨(by simp [vOf, Lv.right, *]), rfl⟩)
   ·
    have p7 := of_decide_eq_false h5
    refine O.gskip (t := 15) rfl rfl (no_bool (by rw [h5]; decide)) rfl rfl <| O.gskip (t := 15) rfl rfl (no_bool (by rw [h5]; decide)) rfl rfl <| O.p (Pu.pickF rfl h5 rfl) rfl <| O.a rfl rfl <| O.nil ?_
    exact J.ret (Fin.ret (rs := [.tmp 4]) rfl [_] ⟨rfl, trivial⟩ [] (by decide) [] rfl ⟨(by simp [vOf, Lv.right, *]), rfl⟩)
  ·
   have p8 := of_decide_eq_false h3
   refine O.gskip (t := 11) rfl rfl (no_bool (by rw [h3]; decide)) rfl rfl <| O.gskip (t := 11) rfl rfl (no_bool (by rw [h3]; decide)) rfl rfl <| O.p (Pu.pickF rfl h3 rfl) rfl <| O.m rfl rfl <| O.gskip (t := 15) rfl rfl (no_bool (by decide)) rfl rfl <| O.gskip (t := 15) rfl rfl (no_bool (by decide)) rfl rfl <| O.p (Pu.pickF rfl rfl rfl) rfl <| O.a rfl rfl <| O.nil ?_
   exact J.ret (Fin.ret (rs := [.tmp 4]) rfl [_] ⟨rfl, trivial⟩ [] (by decide) [] rfl ⟨(by simp [vOf, Lv.right, *]), rfl⟩)
 ·
  have p9 := of_decide_eq_false h1
  refine O.gskip (t := 7) rfl rfl (no_bool (by rw [h1]; decide)) rfl rfl <| O.gskip (t := 7) rfl rfl (no_bool (by rw [h1]; decide)) rfl rfl <| O.p (Pu.pickF rfl h1 rfl) rfl <| O.m rfl rfl <| O.gskip (t := 11) rfl rfl (no_bool (by decide)) rfl rfl <| O.gskip (t := 11) rfl rfl (no_bool (by decide)) rfl rfl <| O.p (Pu.pickF rfl rfl rfl) rfl <| O.m rfl rfl <| O.gskip (t := 15) rfl rfl (no_bool (by decide)) rfl rfl <| O.gskip (t := 15) rfl rfl (no_bool (by decide)) rfl rfl <| O.p (Pu.pickF rfl rfl rfl) rfl <| O.a rfl rfl ?_
  refine O.nil ?_
  exact J.ret (Fin.ret (rs := [.tmp 4]) rfl [_] ⟨rfl, trivial⟩ [] (by decide) [] rfl ⟨(by simp [vOf, Lv.right, *]), rfl⟩)

set_option maxRecDepth 100000 in
theorem r08_Split (b c l : Int) (hg : Lv.Grid b c) : Tri prog 72 #[.int .i64 b, .int .i64 c, .int .i64 l] [] [] (fun v L' => v = .tuple #[.int .i64 (Lv.split b c l).1, .int .i64 (Lv.split b c l).2.1, .int .i64 (Lv.split b c l).2.2] ∧ L' = []) := by
 refine Tri.enter (args := [.int .i64 b, .int .i64 c, .int .i64 l]) (body := _) 29 func72 rfl ntmps72 rfl ?_
 intro w0
 refine J.seq <| J.region <| O.a rfl rfl <| O.a rfl rfl <| O.a rfl rfl <| O.nil <| J.seq <| J.region <| O.a rfl rfl <| O.nil <| J.seq <| J.seq ?_
 refine J.region <| O.a rfl rfl <| O.nil <| J.block <| J.loop (X := Int × Int) (fun ξ => 0 ≤ ξ.1 ∧ ξ.1 ≤ b ∧ ξ.2 = ξ.1 * c ∧ 0 ≤ ξ.2 ∧ ξ.2 ≤ 128 ∧ (l < 0 ∨ ξ.2 ≤ l)) (fun ξ => [(0, .int .i64 b), (1, .int .i64 c), (2, .int .i64 l), (9, .int .i64 ξ.2), (10, .int .i64 ξ.1)]) (fun ξ => []) (fun ξ => (b - ξ.1).toNat) ⟨0, 0⟩ (show 0 ≤ 0 ∧ 0 ≤ b ∧ 0 = 0 * c ∧ 0 ≤ 0 ∧ 0 ≤ 128 ∧ (l < 0 ∨ 0 ≤ l) from ⟨by omega, (by have := hg.b0; omega), (by simp), by omega, by omega, by omega⟩) ⟨rfl, rfl, rfl, rfl, rfl, trivial⟩ [] (by decide) rfl ?_
 rintro ⟨x, k⟩ hq1
 obtain ⟨hx0, hx1, hk, hk0, hk1, hno⟩ : 0 ≤ x ∧ x ≤ b ∧ k = x * c ∧ 0 ≤ k ∧ k ≤ 128 ∧ (l < 0 ∨ k ≤ l) := hq1
 show J _ _ [(0, .int .i64 b), (1, .int .i64 c), (2, .int .i64 l), (9, .int .i64 k), (10, .int .i64 x)] []
 refine J.seq <| J.seq <| J.region <| O.m rfl rfl <| O.m rfl rfl <| O.p (Pu.lss rfl rfl) rfl <| O.nil ?_
 refine J.cond rfl (fun h2 => ?_) (fun h2 => ?_)
 ·
  have p3 := of_decide_eq_true h2
  refine J.skip <| J.seq <| J.block <| J.seq <| J.region <| O.a rfl rfl <| O.nil <| J.block <| J.loop (X := Int × Int) (fun ξ => 0 ≤ ξ.1 ∧ ξ.1 ≤ c ∧ ξ.2 = x * c + ξ.1 ∧ 0 ≤ ξ.2 ∧ ξ.2 ≤ 128 ∧ (l < 0 ∨ ξ.2 ≤ l)) (fun ξ => [(0, .int .i64 b), (1, .int .i64 c), (2, .int .i64 l), (9, .int .i64 ξ.2), (10, .int .i64 x), (11, .int .i64 ξ.1)]) (fun ξ => []) (fun ξ => (c - ξ.1).toNat) ⟨0, k⟩ (show 0 ≤ 0 ∧ 0 ≤ c ∧ k = x * c + 0 ∧ 0 ≤ k ∧ k ≤ 128 ∧ (l < 0 ∨ k ≤ l) from ⟨by omega, (by have := hg.c0; omega), by omega, by omega, by omega, by omega⟩) ⟨rfl, rfl, rfl, rfl, rfl, rfl, trivial⟩ [] (by decide) rfl ?_
  rintro ⟨y, m⟩ hq4
  obtain ⟨hy0, hy1, hm, hm0, hm1, hny⟩ : 0 ≤ y ∧ y ≤ c ∧ m = x * c + y ∧ 0 ≤ m ∧ m ≤ 128 ∧ (l < 0 ∨ m ≤ l) := hq4
  show J _ _ [(0, .int .i64 b), (1, .int .i64 c), (2, .int .i64 l), (9, .int .i64 m), (10, .int .i64 x), (11, .int .i64 y)] []
  refine J.seq <| J.seq <| J.region <| O.m rfl rfl <| O.m rfl rfl <| O.p (Pu.lss rfl rfl) rfl <| O.nil ?_
  refine J.cond rfl (fun h5 => ?_) (fun h5 => ?_)
  ·
   have p6 := of_decide_eq_true h5
   refine J.skip <| J.seq <| J.block <| J.seq <| J.seq <| J.region <| O.m rfl rfl <| O.m rfl rfl <| O.p (Pu.eql rfl rfl) rfl <| O.nil ?_
   refine J.cond rfl (fun h7 => ?_) (fun h7 => ?_)
   ·
    have p8 := of_decide_eq_true h7
    refine J.seq <| J.region <| O.m rfl rfl <| O.m rfl rfl <| O.a rfl rfl <| O.a rfl rfl <| O.a rfl rfl <| O.nil ?_
    exact J.ret (Fin.ret (rs := [.tmp 6, .tmp 7, .tmp 8]) rfl [_, _, _] ⟨rfl, rfl, rfl, trivial⟩ [] (by decide) [] rfl ⟨(by rw [Lv.split_hit hg.c0 hx0 (by omega) hy0 (by omega) (by omega)]; rfl), rfl⟩)
   ·
    have p9 := of_decide_eq_false h7
    refine J.skip <| J.region <| O.m rfl rfl <| O.p (Pu.add' rfl rfl (by first | omega | (have h1_ := hg.b1; have h2_ := hg.c1; omega))) rfl <| O.a rfl rfl <| O.nil <| J.blk <| J.region <| O.m rfl rfl <| O.p (Pu.add' rfl rfl (by first | omega | (have h1_ := hg.b1; have h2_ := hg.c1; omega))) rfl <| O.a rfl rfl <| O.nil ?_
    exact J.lp ⟨y + 1, m + 1⟩ (show 0 ≤ (y + 1) ∧ (y + 1) ≤ c ∧ (m + 1) = x * c + (y + 1) ∧ 0 ≤ (m + 1) ∧ (m + 1) ≤ 128 ∧ (l < 0 ∨ (m + 1) ≤ l) from ⟨by omega, by omega, by omega, by omega, (by have h_ := Lv.row_at hg.c0 hx0 (by omega : x < b) hy0 (by omega : y < c); have h2_ := hg.mul; omega), by omega⟩) (show (c - (y + 1)).toNat < (c - y).toNat from (by first | omega | (have h1_ := hg.b1; have h2_ := hg.c1; omega))) ⟨rfl, rfl, rfl, rfl, rfl, rfl, trivial⟩ [] (by decide) rfl
  ·
   have p10 := of_decide_eq_false h5
   refine J.exit _ rfl <| J.blk <| J.region <| O.m rfl rfl <| O.p (Pu.add' rfl rfl (by first | omega | (have h1_ := hg.b1; have h2_ := hg.c1; omega))) rfl <| O.a rfl rfl <| O.nil ?_
   exact J.lp ⟨x + 1, m⟩ (show 0 ≤ (x + 1) ∧ (x + 1) ≤ b ∧ m = (x + 1) * c ∧ 0 ≤ m ∧ m ≤ 128 ∧ (l < 0 ∨ m ≤ l) from ⟨by omega, by omega, Lv.row_next hm (by omega), by omega, by omega, by omega⟩) (show (b - (x + 1)).toNat < (b - x).toNat from (by first | omega | (have h1_ := hg.b1; have h2_ := hg.c1; omega))) ⟨rfl, rfl, rfl, rfl, rfl, trivial⟩ [] (by decide) rfl
 ·
  have p11 := of_decide_eq_false h2
  refine J.exit _ rfl <| J.seq <| J.region <| O.a rfl rfl <| O.a rfl rfl <| O.a rfl rfl <| O.nil ?_
  exact J.ret (Fin.ret (rs := [.tmp 6, .tmp 7, .tmp 8]) rfl [_, _, _] ⟨rfl, rfl, rfl, trivial⟩ [] (by decide) [] rfl ⟨(by rw [Lv.split_out (by have hxb : x = b := (by omega); subst hxb; omega)]; rfl), rfl⟩)

set_option maxRecDepth 100000 in
theorem r08_Text (b c l : Int) (hg : Lv.Grid b c) : Tri prog 50 #[.int .i64 b, .int .i64 c, .int .i64 l] [] [] (fun v L' => v = .tuple #[str (Lv.text b c l).1, .int .i64 (Lv.text b c l).2] ∧ L' = []) := by
 refine Tri.enter (args := [.int .i64 b, .int .i64 c, .int .i64 l]) (body := _) 28 func50 rfl ntmps50 rfl ?_
 intro w0
 refine J.seq <| J.region <| O.a rfl rfl <| O.a rfl rfl <| O.nil <| J.seq <| J.region <| O.m rfl rfl <| O.m rfl rfl <| O.m rfl rfl <| O.l (Lo.call [.int .i64 b, .int .i64 c, .int .i64 l] (by exact call72) rfl (r08_Split b c l ‹_›) [] [] (by decide) rfl [] rfl RoOk.nil) rfl ?_
 rintro _ _ ⟨_, ⟨rfl, rfl⟩, rfl⟩
 refine O.m rfl rfl <| O.p (Pu.extract rfl rfl) rfl <| O.p (Pu.extract rfl rfl) rfl <| O.p (Pu.extract rfl rfl) rfl <| O.a rfl rfl <| O.a rfl rfl <| O.a rfl rfl <| O.nil <| J.seq <| J.seq <| J.region <| O.m rfl rfl ?_
 refine O.p (Pu.neq rfl rfl) rfl <| O.nil ?_
 refine J.cond rfl (fun h2 => ?_) (fun h2 => ?_)
 ·
  have p3 := of_decide_eq_true h2
  refine J.seq <| J.region <| O.m rfl rfl <| O.a rfl rfl <| O.a rfl rfl <| O.nil ?_
  exact J.ret (Fin.ret (rs := [.tmp 6, .tmp 7]) rfl [_, _] ⟨rfl, rfl, trivial⟩ [] (by decide) [] rfl ⟨(by rw [Lv.text_no (by omega)]; rfl), rfl⟩)
 ·
  have p4 := of_decide_eq_false h2
  refine J.skip <| J.seq <| J.region <| O.m rfl rfl <| O.l (Lo.call [.int .i64 ((Lv.split b c l).1)] (by exact call51) rfl (r05_Text ((Lv.split b c l).1) (by have h_ := (show Lv.Ok b c from .inl hg).parts l; unfold Dc.I64; omega)) [] [] (by decide) rfl [] rfl RoOk.nil) rfl ?_
  rintro _ _ ⟨_, ⟨rfl, rfl⟩, rfl⟩
  refine O.p (Pu.sAdd rfl rfl (by have h_ := (show Lv.Ok b c from .inl hg).parts l; have h1_ := Lv.itoa_len h_.1 h_.2.1; have h2_ := Lv.itoa_len h_.2.2.1 h_.2.2.2; simp only [List.length_append, List.length_cons, List.length_nil]; omega)) rfl <| O.m rfl rfl <| O.l (Lo.call [.int .i64 ((Lv.split b c l).2.1)] (by exact call51) rfl (r05_Text ((Lv.split b c l).2.1) (by have h_ := (show Lv.Ok b c from .inl hg).parts l; unfold Dc.I64; omega)) [] [] (by decide) rfl [] rfl RoOk.nil) rfl ?_
  rintro _ _ ⟨_, ⟨rfl, rfl⟩, rfl⟩
  refine O.p (Pu.sAdd rfl rfl (by have h_ := (show Lv.Ok b c from .inl hg).parts l; have h1_ := Lv.itoa_len h_.1 h_.2.1; have h2_ := Lv.itoa_len h_.2.2.1 h_.2.2.2; simp only [List.length_append, List.length_cons, List.length_nil]; omega)) rfl <| O.a rfl rfl <| O.a rfl rfl <| O.nil ?_
  exact J.ret (Fin.ret (rs := [.tmp 6, .tmp 7]) rfl [_, _] ⟨rfl, rfl, trivial⟩ [] (by decide) [] rfl ⟨(by rw [Lv.text_yes (by omega)]; rfl), rfl⟩)

set_option maxRecDepth 100000 in
theorem b_copyCheck_fresh (b : Nat) (V : Value) : Tri prog 69 #[.pointer (some ⟨b, 0, none⟩)] [] [var b [Value.pointer none, V] 83] (fun v L' => v = .tuple #[] ∧ L' = [var b [.pointer (some ⟨b, 0, none⟩), V] 83]) := by
 refine Tri.enter (args := [.pointer (some ⟨b, 0, none⟩)]) (body := _) 20 func69 rfl ntmps69 rfl ?_
 intro w0
 refine J.seq <| J.region <| O.m rfl rfl <| O.p (Pu.nilCheck rfl) rfl <| O.p (Pu.fieldAddr (off' := 0) runUnderlying83 rfl sizeOf80 rfl rfl rfl) rfl <| O.q (Qt.ld rfl (Cel.var 0 rfl) (o := 0) (off := 0) rfl (Cut.one isAgg80 rfl)) rfl <| O.p (Pu.nilEq underlying80 rfl) rfl <| O.nil <| J.condT rfl rfl <| J.region <| O.m rfl rfl <| O.m rfl rfl ?_
 refine O.q (Qt.toUnsafe 0 underlying80 underlying131 (info83).1 (by rw [(info83).2.2.1]; decide) rfl rfl rfl) rfl <| O.p (Pu.noEscape func90 (by kernel_rfl) (by kernel_rfl) (by kernel_rfl) (by kernel_rfl) rfl) rfl <| O.q (Qt.fromUnsafe 0 underlying131 underlying80 (info83).1 rfl rfl (by kernel_rfl)) rfl <| O.p (Pu.nilCheck rfl) rfl <| O.p (Pu.fieldAddr (off' := 0) runUnderlying83 rfl sizeOf80 rfl rfl rfl) rfl <| O.l0 (Lo.store 0 (vs := [.pointer (some ⟨b, 0, none⟩)]) [.pointer (some ⟨b, 0, none⟩), V] rfl rfl rfl (by exact sizeOf80) rfl rfl rfl rfl rfl) ?_
 rintro _ _ rfl
 refine O.nil ?_
 exact J.done (Fin.ret (rs := []) rfl [] trivial [0] (by decide) [var b [.pointer (some ⟨b, 0, none⟩), V] 83] rfl ⟨rfl, rfl⟩)

set_option maxRecDepth 100000 in
theorem b_copyCheck_used (b : Nat) (V : Value) : Tri prog 69 #[.pointer (some ⟨b, 0, none⟩)] [] [var b [.pointer (some ⟨b, 0, none⟩), V] 83] (fun v L' => v = .tuple #[] ∧ L' = [var b [.pointer (some ⟨b, 0, none⟩), V] 83]) := by
 refine Tri.enter (args := [.pointer (some ⟨b, 0, none⟩)]) (body := _) 20 func69 rfl ntmps69 rfl ?_
 intro w0
 refine J.seq <| J.region <| O.m rfl rfl <| O.p (Pu.nilCheck rfl) rfl <| O.p (Pu.fieldAddr (off' := 0) runUnderlying83 rfl sizeOf80 rfl rfl rfl) rfl <| O.q (Qt.ld rfl (Cel.var 0 rfl) (o := 0) (off := 0) rfl (Cut.one isAgg80 rfl)) rfl <| O.p (Pu.someEq underlying80 rfl) rfl <| O.nil <| J.condF rfl rfl <| J.seq <| J.region <| O.m rfl rfl ?_
 refine O.p (Pu.nilCheck rfl) rfl <| O.p (Pu.fieldAddr (off' := 0) runUnderlying83 rfl sizeOf80 rfl rfl rfl) rfl <| O.q (Qt.ld rfl (Cel.var 0 rfl) (o := 0) (off := 0) rfl (Cut.one isAgg80 rfl)) rfl <| O.m rfl rfl <| O.p (Pu.samePtr underlying80 (info83).1 rfl rfl) rfl <| O.nil <| J.condF rfl rfl <| J.skip ?_
 exact J.done (Fin.ret (rs := []) rfl [] trivial [0] (by decide) [var b [.pointer (some ⟨b, 0, none⟩), V] 83] rfl ⟨rfl, rfl⟩)

set_option maxRecDepth 100000 in
theorem b_WriteString_fresh (b : Nat) (V : Value) (l s : List UInt8) (hl : l.length + s.length ≤ 1000000000) : Tri prog 45 #[.pointer (some ⟨b, 0, none⟩), str s] [] [var b [Value.pointer none, V] 83, row V 5 1 (l.map encB)] (fun v L' => ∃ V', v = .tuple #[.int .i64 s.length, .nilIface] ∧ L' = [var b [.pointer (some ⟨b, 0, none⟩), V'] 83, row V' 5 1 ((l ++ s).map encB)]) := by
 refine Tri.enter (args := [.pointer (some ⟨b, 0, none⟩), str s]) (body := _) 19 func45 rfl ntmps45 rfl ?_
 intro w0
 refine J.seq <| J.region <| O.a rfl rfl <| O.a rfl rfl <| O.nil <| J.seq <| J.region <| O.m rfl rfl <| O.l (Lo.call [.pointer (some ⟨b, 0, none⟩)] (by exact call69) rfl (b_copyCheck_fresh b V) [0] [1] (by decide) rfl [row V 5 1 (l.map encB)] rfl RoOk.nil) rfl ?_
 rintro _ _ ⟨_, ⟨rfl, rfl⟩, rfl⟩
 refine O.nil <| J.seq <| J.region <| O.m rfl rfl <| O.m rfl rfl <| O.p (Pu.nilCheck rfl) rfl <| O.p (Pu.fieldAddr (off' := 1) runUnderlying83 rfl sizeOf81 rfl rfl rfl) rfl <| O.q (Qt.ld rfl (Cel.var 0 rfl) (o := 0) (off := 1) rfl (Cut.one isAgg81 rfl)) rfl <| O.m rfl rfl <| O.l (Lo.appendStr 1 (by exact underlying81) (by exact underlying9) (by exact (info5).1) (by exact (info5).2.1) (by exact (info5).2.2.1) (by exact (info5).2.2.2) rfl rfl rfl (by omega)) rfl ?_
 rintro V2 _ rfl
 refine O.p (Pu.nilCheck rfl) rfl <| O.p (Pu.fieldAddr (off' := 1) runUnderlying83 rfl sizeOf81 rfl rfl rfl) rfl ?_
 refine O.one (Src.row 1 rfl) (fun hV3 => ?_)
 refine O.l0 (Lo.store 0 (vs := [V2]) [.pointer (some ⟨b, 0, none⟩), V2] rfl rfl rfl (by exact sizeOf81) (one_cells hV3) rfl (one_all hV3) rfl rfl) ?_
 rintro _ _ rfl
 refine O.nil <| J.seq <| J.region <| O.m rfl rfl <| O.p (Pu.sLen runUnderlying9 rfl) rfl <| O.a rfl rfl <| O.a rfl rfl <| O.nil ?_
 exact J.ret (Fin.ret (rs := [.tmp 4, .tmp 5]) rfl [_, _] ⟨rfl, rfl, trivial⟩ [0, 1] (by decide) [var b [.pointer (some ⟨b, 0, none⟩), V2] 83, row V2 5 1 ((l ++ s).map encB)] rfl ⟨V2, rfl, rfl⟩)

set_option maxRecDepth 100000 in
theorem b_WriteString_used (b : Nat) (V : Value) (l s : List UInt8) (hl : l.length + s.length ≤ 1000000000) : Tri prog 45 #[.pointer (some ⟨b, 0, none⟩), str s] [] [var b [.pointer (some ⟨b, 0, none⟩), V] 83, row V 5 1 (l.map encB)] (fun v L' => ∃ V', v = .tuple #[.int .i64 s.length, .nilIface] ∧ L' = [var b [.pointer (some ⟨b, 0, none⟩), V'] 83, row V' 5 1 ((l ++ s).map encB)]) := by
 refine Tri.enter (args := [.pointer (some ⟨b, 0, none⟩), str s]) (body := _) 19 func45 rfl ntmps45 rfl ?_
 intro w0
 refine J.seq <| J.region <| O.a rfl rfl <| O.a rfl rfl <| O.nil <| J.seq <| J.region <| O.m rfl rfl <| O.l (Lo.call [.pointer (some ⟨b, 0, none⟩)] (by exact call69) rfl (b_copyCheck_used b V) [0] [1] (by decide) rfl [row V 5 1 (l.map encB)] rfl RoOk.nil) rfl ?_
 rintro _ _ ⟨_, ⟨rfl, rfl⟩, rfl⟩
 refine O.nil <| J.seq <| J.region <| O.m rfl rfl <| O.m rfl rfl <| O.p (Pu.nilCheck rfl) rfl <| O.p (Pu.fieldAddr (off' := 1) runUnderlying83 rfl sizeOf81 rfl rfl rfl) rfl <| O.q (Qt.ld rfl (Cel.var 0 rfl) (o := 0) (off := 1) rfl (Cut.one isAgg81 rfl)) rfl <| O.m rfl rfl <| O.l (Lo.appendStr 1 (by exact underlying81) (by exact underlying9) (by exact (info5).1) (by exact (info5).2.1) (by exact (info5).2.2.1) (by exact (info5).2.2.2) rfl rfl rfl (by omega)) rfl ?_
 rintro V2 _ rfl
 refine O.p (Pu.nilCheck rfl) rfl <| O.p (Pu.fieldAddr (off' := 1) runUnderlying83 rfl sizeOf81 rfl rfl rfl) rfl ?_
 refine O.one (Src.row 1 rfl) (fun hV3 => ?_)
 refine O.l0 (Lo.store 0 (vs := [V2]) [.pointer (some ⟨b, 0, none⟩), V2] rfl rfl rfl (by exact sizeOf81) (one_cells hV3) rfl (one_all hV3) rfl rfl) ?_
 rintro _ _ rfl
 refine O.nil <| J.seq <| J.region <| O.m rfl rfl <| O.p (Pu.sLen runUnderlying9 rfl) rfl <| O.a rfl rfl <| O.a rfl rfl <| O.nil ?_
 exact J.ret (Fin.ret (rs := [.tmp 4, .tmp 5]) rfl [_, _] ⟨rfl, rfl, trivial⟩ [0, 1] (by decide) [var b [.pointer (some ⟨b, 0, none⟩), V2] 83, row V2 5 1 ((l ++ s).map encB)] rfl ⟨V2, rfl, rfl⟩)

set_option maxRecDepth 100000 in
theorem b_String_some (b : Nat) (pv V : Value) (l : List UInt8) (hne : l ≠ []) : Tri prog 48 #[.pointer (some ⟨b, 0, none⟩)] [] [var b [pv, V] 83, row V 5 1 (l.map encB)] (fun v L' => v = str l ∧ L' = []) := by
 refine Tri.enter (args := [.pointer (some ⟨b, 0, none⟩)]) (body := _) 14 func48 rfl ntmps48 rfl ?_
 intro w0
 refine J.seq <| J.region <| O.a rfl rfl <| O.nil <| J.seq <| J.drawTail 10 Tryz.mixed (by kernel_rfl) <| S.m rfl rfl <| S.p (Pu.nilCheck rfl) rfl <| S.p (Pu.fieldAddr (off' := 1) runUnderlying83 rfl sizeOf81 rfl rfl rfl) rfl <| S.q (Qt.ld rfl (Cel.var 0 rfl) (o := 0) (off := 1) rfl (Cut.one isAgg81 rfl)) rfl <| S.q (Qt.sliceData 1 rfl rfl hne) rfl <| S.m rfl rfl ?_
 refine S.p (Pu.nilCheck rfl) rfl <| S.p (Pu.fieldAddr (off' := 1) runUnderlying83 rfl sizeOf81 rfl rfl rfl) rfl <| S.q (Qt.ld rfl (Cel.var 0 rfl) (o := 0) (off := 1) rfl (Cut.one isAgg81 rfl)) rfl <| S.q (Qt.lenM runUnderlying81 rfl (Src.row 1 rfl)) rfl <| S.endO <| O.l (Lo.unsafeString 1 (L' := [var b [pv, V] 83]) (by exact underlying115) (by kernel_rfl) rfl rfl rfl hne rfl) rfl ?_
 rintro _ _ ⟨rfl, rfl⟩
 refine O.a rfl rfl <| O.nil ?_
 exact J.ret (Fin.ret (rs := [.tmp 2]) rfl [_] ⟨rfl, trivial⟩ [] (by decide) [] rfl ⟨rfl, rfl⟩)

set_option maxRecDepth 100000 in
theorem b_String_none (b : Nat) (pv : Value) : Tri prog 48 #[.pointer (some ⟨b, 0, none⟩)] [] [var b [pv, Value.slice none 0 0] 83, row (Value.slice none 0 0) 5 1 (([] : List UInt8).map encB)] (fun v L' => v = str [] ∧ L' = []) := by
 refine Tri.enter (args := [.pointer (some ⟨b, 0, none⟩)]) (body := _) 14 func48 rfl ntmps48 rfl ?_
 intro w0
 refine J.seq <| J.region <| O.a rfl rfl <| O.nil <| J.seq <| J.drawTail 10 Tryz.mixed (by kernel_rfl) <| S.m rfl rfl <| S.p (Pu.nilCheck rfl) rfl <| S.p (Pu.fieldAddr (off' := 1) runUnderlying83 rfl sizeOf81 rfl rfl rfl) rfl <| S.q (Qt.ld rfl (Cel.var 0 rfl) (o := 0) (off := 1) rfl (Cut.one isAgg81 rfl)) rfl <| S.p (Pu.sliceDataNil rfl) rfl <| S.m rfl rfl ?_
 refine S.p (Pu.nilCheck rfl) rfl <| S.p (Pu.fieldAddr (off' := 1) runUnderlying83 rfl sizeOf81 rfl rfl rfl) rfl <| S.q (Qt.ld rfl (Cel.var 0 rfl) (o := 0) (off := 1) rfl (Cut.one isAgg81 rfl)) rfl <| S.q (Qt.lenM runUnderlying81 rfl (Src.row 1 rfl)) rfl <| S.endO <| O.p (Pu.unsafeStringNil rfl rfl) rfl <| O.a rfl rfl <| O.nil ?_
 exact J.ret (Fin.ret (rs := [.tmp 2]) rfl [_] ⟨rfl, trivial⟩ [] (by decide) [] rfl ⟨rfl, rfl⟩)

end Go.Proofs.YtnkhmbbnabejhaaGreatDoor

namespace Go.Proofs.YtnkhmbbnabejhaaGreatDoor
open Go Go.LK Go.Proofs.Tryz
set_option linter.unusedSimpArgs false

theorem b_WriteString (b : Nat) (pv V : Value) (l s : List UInt8) (hp : pv = .pointer none ∨ pv = .pointer (some ⟨b, 0, none⟩)) (hl : l.length + s.length ≤ 1000000000) : Tri prog 45 #[.pointer (some ⟨b, 0, none⟩), str s] [] [var b [pv, V] 83, row V 5 1 (l.map encB)] (fun v L' => ∃ V', v = .tuple #[.int .i64 s.length, .nilIface] ∧ L' = [var b [.pointer (some ⟨b, 0, none⟩), V'] 83, row V' 5 1 ((l ++ s).map encB)]) := by
  rcases hp with rfl | rfl
  · exact b_WriteString_fresh b V l s hl
  · exact b_WriteString_used b V l s hl
theorem b_String (b : Nat) (pv V : Value) (l : List UInt8) (h : (l = [] ∧ V = .slice none 0 0) ∨ l ≠ []) : Tri prog 48 #[.pointer (some ⟨b, 0, none⟩)] [] [var b [pv, V] 83, row V 5 1 (l.map encB)] (fun v L' => v = str l ∧ L' = []) := by
  rcases h with ⟨rfl, rfl⟩ | h
  · exact b_String_none b pv
  · exact b_String_some b pv V l h

set_option maxRecDepth 100000 in
set_option maxHeartbeats 1000000 in
theorem rp_Table (b c : Int) (av gv : Value) (all good : List Int) (hA : Kn.I64s all) (hG : Kn.I64s good) (ha1 : all.length ≤ 1000) (hg1 : good.length ≤ 1000) : Tri prog 16 #[.int .i64 b, .int .i64 c, av, gv] [libW, rd av 1 (all.map encZ), rd gv 1 (good.map encZ)] [] (fun v L' => v = .tuple #[str (Rp.tab b c all good).1, .int .i64 (Rp.tab b c all good).2] ∧ L' = []) := by
 refine Tri.enter (args := [.int .i64 b, .int .i64 c, av, gv]) (body := _) 70 func16 rfl ntmps16 rfl ?_
 intro w0
 refine J.seq <| J.region <| O.a rfl rfl <| O.a rfl rfl <| O.nil <| J.seq <| J.region <| O.m rfl rfl <| O.m rfl rfl <| O.l (Lo.call [.int .i64 b, .int .i64 c] (by exact call42) rfl (lv_New b c) [] [] (by decide) rfl [] rfl RoOk.nil) rfl ?_
 rintro _ _ ⟨_, ⟨rfl, rfl⟩, rfl⟩
 refine O.m rfl rfl <| O.p (Pu.extract rfl rfl) rfl <| O.p (Pu.extract rfl rfl) rfl <| O.l (Lo.alloc [.int .i64 0, .int .i64 0] (by exact zeroValue76) rfl) rfl ?_
 rintro _ _ ⟨g2, rfl, rfl⟩
 refine O.l0 (Lo.store 0 (vs := [.int .i64 ((Lv.new b c).1), .int .i64 ((Lv.new b c).2.1)]) [.int .i64 ((Lv.new b c).1), .int .i64 ((Lv.new b c).2.1)] rfl rfl rfl (by exact sizeOf76) rfl rfl rfl rfl rfl) ?_
 rintro _ _ rfl
 refine O.a rfl rfl <| O.nil <| J.seq <| J.seq <| J.region <| O.m rfl rfl <| O.p (Pu.neq rfl rfl) rfl <| O.m rfl rfl ?_
 refine by_bool (decide (((Lv.new b c).2.2) ≠ 0)) (fun h3 => ?_) (fun h3 => ?_)
 ·
  have p4 := of_decide_eq_true h3
  refine O.gskip (t := 25) rfl rfl (no_bool (by rw [h3]; decide)) rfl rfl <| O.gskip (t := 25) rfl rfl (no_bool (by rw [h3]; decide)) rfl rfl <| O.gskip (t := 25) rfl rfl (no_bool (by rw [h3]; decide)) rfl rfl <| O.gskip (t := 25) rfl rfl (no_bool (by rw [h3]; decide)) rfl rfl <| O.gskip (t := 25) rfl rfl (no_bool (by rw [h3]; decide)) rfl rfl <| O.gskip (t := 25) rfl rfl (no_bool (by rw [h3]; decide)) rfl rfl <| O.p (Pu.pickT rfl h3 rfl) rfl <| O.m rfl rfl <| O.gskip (t := 33) rfl rfl (no_bool (by decide)) rfl rfl <| O.gskip (t := 33) rfl rfl (no_bool (by decide)) rfl rfl <| O.gskip (t := 33) rfl rfl (no_bool (by decide)) rfl rfl <| O.gskip (t := 33) rfl rfl (no_bool (by decide)) rfl rfl ?_
  refine O.gskip (t := 33) rfl rfl (no_bool (by decide)) rfl rfl <| O.gskip (t := 33) rfl rfl (no_bool (by decide)) rfl rfl <| O.p (Pu.pickT rfl rfl rfl) rfl <| O.nil <| J.condT rfl rfl <| J.seq <| J.region <| O.a rfl rfl <| O.a rfl rfl <| O.nil ?_
  exact J.ret (Fin.ret (rs := [.tmp 8, .tmp 9]) rfl [_, _] ⟨rfl, rfl, trivial⟩ [] (by decide) [] rfl ⟨(by rw [Rp.tab_no (fun h_ => by have h1_ := Lv.new_grid h_.1; have h2_ := h_.2.1; have h3_ := h_.2.2; simp only [h1_] at *; omega)]; rfl), rfl⟩)
 ·
  have p5 := of_decide_eq_false h3
  refine O.gq (t := 25) rfl rfl h3 rfl (Pu.qt (Pu.move rfl)) rfl <| O.gq (t := 25) rfl rfl h3 rfl (Qt.lenM runUnderlying34 rfl (Src.ro 1 rfl)) rfl <| O.gq (t := 25) rfl rfl h3 rfl (Pu.qt (Pu.fieldAddr (off' := 0) runUnderlying76 rfl sizeOf74 rfl rfl rfl)) rfl <| O.gq (t := 25) rfl rfl h3 rfl (Qt.ld rfl (Cel.var 0 rfl) (o := 0) (off := 0) rfl (Cut.agg [.int .i64 ((Lv.new b c).1), .int .i64 ((Lv.new b c).2.1)] isAgg74 sizeOf74 rfl rfl)) rfl <| O.gl (t := 25) rfl rfl h3 rfl (Lo.call [.agg #[.int .i64 ((Lv.new b c).1), .int .i64 ((Lv.new b c).2.1)]] (by exact call43) rfl (lv_Levels ((Lv.new b c).1) ((Lv.new b c).2.1) (by exact Lv.new_ok)) [] [0] (by decide) rfl [var g2 [.int .i64 ((Lv.new b c).1), .int .i64 ((Lv.new b c).2.1)] 76] rfl RoOk.nil) rfl ?_
  rintro _ _ ⟨_, ⟨rfl, rfl⟩, rfl⟩
  refine O.gq (t := 25) rfl rfl h3 rfl (Pu.qt (Pu.neq rfl rfl)) rfl <| O.p (Pu.pickF rfl h3 rfl) rfl <| O.m rfl rfl ?_
  refine by_bool (decide ((all.length : Int) ≠ (((Lv.new b c).1) * ((Lv.new b c).2.1)))) (fun h7 => ?_) (fun h7 => ?_)
  ·
   have p8 := of_decide_eq_true h7
   refine O.gskip (t := 33) rfl rfl (no_bool (by rw [h7]; decide)) rfl rfl <| O.gskip (t := 33) rfl rfl (no_bool (by rw [h7]; decide)) rfl rfl <| O.gskip (t := 33) rfl rfl (no_bool (by rw [h7]; decide)) rfl rfl <| O.gskip (t := 33) rfl rfl (no_bool (by rw [h7]; decide)) rfl rfl <| O.gskip (t := 33) rfl rfl (no_bool (by rw [h7]; decide)) rfl rfl <| O.gskip (t := 33) rfl rfl (no_bool (by rw [h7]; decide)) rfl rfl <| O.p (Pu.pickT rfl h7 rfl) rfl <| O.nil <| J.condT rfl rfl <| J.seq <| J.region <| O.a rfl rfl ?_
   refine O.a rfl rfl <| O.nil ?_
   exact J.ret (Fin.ret (rs := [.tmp 8, .tmp 9]) rfl [_, _] ⟨rfl, rfl, trivial⟩ [] (by decide) [] rfl ⟨(by rw [Rp.tab_no (fun h_ => by have h1_ := Lv.new_grid h_.1; have h2_ := h_.2.1; have h3_ := h_.2.2; simp only [h1_] at *; omega)]; rfl), rfl⟩)
  ·
   have p9 := of_decide_eq_false h7
   refine O.gq (t := 33) rfl rfl h7 rfl (Pu.qt (Pu.move rfl)) rfl <| O.gq (t := 33) rfl rfl h7 rfl (Qt.lenM runUnderlying34 rfl (Src.ro 2 rfl)) rfl <| O.gq (t := 33) rfl rfl h7 rfl (Pu.qt (Pu.fieldAddr (off' := 0) runUnderlying76 rfl sizeOf74 rfl rfl rfl)) rfl <| O.gq (t := 33) rfl rfl h7 rfl (Qt.ld rfl (Cel.var 0 rfl) (o := 0) (off := 0) rfl (Cut.agg [.int .i64 ((Lv.new b c).1), .int .i64 ((Lv.new b c).2.1)] isAgg74 sizeOf74 rfl rfl)) rfl <| O.gl (t := 33) rfl rfl h7 rfl (Lo.call [.agg #[.int .i64 ((Lv.new b c).1), .int .i64 ((Lv.new b c).2.1)]] (by exact call43) rfl (lv_Levels ((Lv.new b c).1) ((Lv.new b c).2.1) (by exact Lv.new_ok)) [] [0] (by decide) rfl [var g2 [.int .i64 ((Lv.new b c).1), .int .i64 ((Lv.new b c).2.1)] 76] rfl RoOk.nil) rfl ?_
   rintro _ _ ⟨_, ⟨rfl, rfl⟩, rfl⟩
   refine O.gq (t := 33) rfl rfl h7 rfl (Pu.qt (Pu.neq rfl rfl)) rfl <| O.p (Pu.pickF rfl h7 rfl) rfl <| O.nil ?_
   refine J.cond rfl (fun h11 => ?_) (fun h11 => ?_)
   ·
    have p12 := of_decide_eq_true h11
    refine J.seq <| J.region <| O.a rfl rfl <| O.a rfl rfl <| O.nil ?_
    exact J.ret (Fin.ret (rs := [.tmp 8, .tmp 9]) rfl [_, _] ⟨rfl, rfl, trivial⟩ [] (by decide) [] rfl ⟨(by rw [Rp.tab_no (fun h_ => by have h1_ := Lv.new_grid h_.1; have h2_ := h_.2.1; have h3_ := h_.2.2; simp only [h1_] at *; omega)]; rfl), rfl⟩)
   ·
    have p13 := of_decide_eq_false h11
    refine J.skip <| J.seq ?_
    have hr := Lv.new_right (b := b) (c := c) (by omega)
    have hnw := Lv.new_grid hr
    have e1 : (Lv.new b c).1 = b := by rw [hnw]
    have e2 : (Lv.new b c).2.1 = c := by rw [hnw]
    have hgr := Lv.right_iff.1 hr
    have hbc := hgr.mul
    have hab : (all.length : Int) = b * c := by have h_ : (all.length : Int) = (Lv.new b c).1 * (Lv.new b c).2.1 := (by omega); exact h_.trans (by rw [e1, e2])
    have hgb : (good.length : Int) = b * c := by have h_ : (good.length : Int) = (Lv.new b c).1 * (Lv.new b c).2.1 := (by omega); exact h_.trans (by rw [e1, e2])
    have hle : all.length = good.length := by omega
    refine J.region <| O.l (Lo.alloc [Value.pointer none, Value.slice none 0 0] (by exact zeroValue83) rfl) rfl ?_
    rintro _ _ ⟨g14, rfl, rfl⟩
    refine O.nil <| J.seq <| J.seq <| J.region <| O.m rfl rfl <| O.q (Qt.lenM runUnderlying34 rfl (Src.ro 1 rfl)) rfl <| O.m rfl rfl <| O.nil <| J.block <| J.nilRow 5 1 <| J.loop (X := Nat × Value × Value × List UInt8) (fun ξ => ξ.1 ≤ all.length ∧ ξ.2.2.2 = Rp.tabK b c all good ξ.1 ∧ (ξ.2.1 = Value.pointer none ∨ ξ.2.1 = Value.pointer (some ⟨g14, 0, none⟩)) ∧ ((ξ.2.2.2 = [] ∧ ξ.2.2.1 = Value.slice none 0 0) ∨ ξ.2.2.2 ≠ [])) (fun ξ => [(3, gv), (8, str ([] : List UInt8)), (9, .int .i64 0), (10, .pointer (some ⟨g2, 0, none⟩)), (12, .pointer (some ⟨g14, 0, none⟩)), (41, av), (42, .int .i64 (all.length : Int)), (43, .int .i64 (ξ.1 : Int))]) (fun ξ => [var g14 [ξ.2.1, ξ.2.2.1] 83, row ξ.2.2.1 5 1 (ξ.2.2.2.map encB), var g2 [.int .i64 ((Lv.new b c).1), .int .i64 ((Lv.new b c).2.1)] 76]) (fun ξ => all.length - ξ.1) ⟨0, Value.pointer none, Value.slice none 0 0, ([] : List UInt8)⟩ (show 0 ≤ all.length ∧ ([] : List UInt8) = Rp.tabK b c all good 0 ∧ ((Value.pointer none) = Value.pointer none ∨ (Value.pointer none) = Value.pointer (some ⟨g14, 0, none⟩)) ∧ ((([] : List UInt8) = [] ∧ (Value.slice none 0 0) = Value.slice none 0 0) ∨ ([] : List UInt8) ≠ []) from ⟨by omega, rfl, .inl rfl, .inl ⟨rfl, rfl⟩⟩) ⟨rfl, rfl, rfl, rfl, rfl, rfl, rfl, (congrArg (fun z => some (Value.int .i64 z)) (by first | rfl | omega : (0 : Int) = (0 : Int))), trivial⟩ [1, 0, 2] (by decide) rfl ?_
    rintro ⟨k, pv, V, t⟩ hq15
    obtain ⟨hk, ht, hp, hV⟩ : k ≤ all.length ∧ t = Rp.tabK b c all good k ∧ (pv = Value.pointer none ∨ pv = Value.pointer (some ⟨g14, 0, none⟩)) ∧ ((t = [] ∧ V = Value.slice none 0 0) ∨ t ≠ []) := hq15
    show J _ _ [(3, gv), (8, str ([] : List UInt8)), (9, .int .i64 0), (10, .pointer (some ⟨g2, 0, none⟩)), (12, .pointer (some ⟨g14, 0, none⟩)), (41, av), (42, .int .i64 (all.length : Int)), (43, .int .i64 (k : Int))] [var g14 [pv, V] 83, row V 5 1 (t.map encB), var g2 [.int .i64 ((Lv.new b c).1), .int .i64 ((Lv.new b c).2.1)] 76]
    refine J.seq <| J.region <| O.p (Pu.lss rfl rfl) rfl <| O.nil <| J.seq ?_
    refine J.cond rfl (fun h16 => ?_) (fun h16 => ?_)
    ·
     have p17 := of_decide_eq_true h16
     refine J.skip <| J.seq <| J.block <| J.seq <| J.region <| O.m rfl rfl ?_
     obtain ⟨e18, he18⟩ : ∃ x_, all[k]? = some x_ := ⟨_, List.getElem?_eq_getElem (by omega)⟩
     refine O.q (Qt.idxM runUnderlying34 sizeOf3 rfl (Src.ro 1 rfl) rfl (by omega) (by omega)) rfl <| O.q (Qt.ld rfl (Cel.eltM (Src.ro 1 rfl) he18) (o := (voff av + k * 1)) (off := 0) (by omega) (Cut.one isAgg3 rfl)) rfl <| O.a rfl rfl <| O.a rfl rfl <| O.nil <| J.seq <| J.region <| O.m rfl rfl <| O.p (Pu.gtr rfl rfl) rfl <| O.nil ?_
     refine J.cond rfl (fun h19 => ?_) (fun h19 => ?_)
     ·
      have p20 := of_decide_eq_true h19
      refine J.seq <| J.region <| O.q (Qt.ld rfl (Cel.var 2 rfl) (o := 0) (off := 0) rfl (Cut.agg [.int .i64 ((Lv.new b c).1), .int .i64 ((Lv.new b c).2.1)] isAgg76 sizeOf76 rfl rfl)) rfl <| O.m rfl rfl <| O.l (Lo.call [.agg #[.int .i64 ((Lv.new b c).1), .int .i64 ((Lv.new b c).2.1)], .int .i64 (k : Int)] (by exact call44) rfl (lv_Text ((Lv.new b c).1) ((Lv.new b c).2.1) (k : Int) (by exact Lv.new_ok)) [] [0, 1, 2] (by decide) rfl [var g14 [pv, V] 83, row V 5 1 (t.map encB), var g2 [.int .i64 ((Lv.new b c).1), .int .i64 ((Lv.new b c).2.1)] 76] rfl (RoOk.ro 0 rfl [] rfl RoOk.nil)) rfl ?_
      rintro _ _ ⟨_, ⟨rfl, rfl⟩, rfl⟩
      refine O.m rfl rfl <| O.p (Pu.extract rfl rfl) rfl <| O.p (Pu.extract rfl rfl) rfl <| O.a rfl rfl <| O.a rfl rfl <| O.nil ?_
      obtain ⟨e22, he22⟩ : ∃ x_, good[k]? = some x_ := ⟨_, List.getElem?_eq_getElem (by omega)⟩
      have hIa := hA _ (List.mem_of_getElem? he18)
      have hIg := hG _ (List.mem_of_getElem? he22)
      have hIa1 := hIa.1
      have hIa2 := hIa.2
      have hIg1 := hIg.1
      have hIg2 := hIg.2
      have hta := Lib.itoa_length_le e18 hIa.1 hIa.2
      have htg := Lib.itoa_length_le e22 hIg.1 hIg.2
      have hnm := Rp.name_len (b := (Lv.new b c).1) (c := (Lv.new b c).2.1) (l := (k : Int)) (by rw [e1, e2]; exact hgr)
      have htk := Rp.tabK_len (b := b) (c := c) hgr hA hG k
      rw [← ht] at htk
      have hjl := Rp.join_len hnm hta htg
      refine J.drawHead 8 Tryz.mixed (by kernel_rfl) <| Hd.p (Pu.move rfl) rfl <| Hd.p (Pu.move rfl) rfl <| Hd.call (vs := [.int .i64 e18]) (caps := []) (by exact call47) rfl rfl (dec_Text e18 (by omega) (by omega)) (fun _ _ h => h) (RoOk.ro 0 rfl [] rfl RoOk.nil) rfl <| Hd.p (Pu.move rfl) rfl <| Hd.p (Pu.move rfl) rfl <| Hd.q (Qt.idxM runUnderlying34 sizeOf3 rfl (Src.ro 2 rfl) rfl (by omega) (by omega)) rfl <| Hd.q (Qt.ld rfl (Cel.eltM (Src.ro 2 rfl) he22) (o := (voff gv + k * 1)) (off := 0) (by omega) (Cut.one isAgg3 rfl)) rfl <| Hd.call (vs := [.int .i64 e22]) (caps := []) (by exact call47) rfl rfl (dec_Text e22 (by omega) (by omega)) (fun _ _ h => h) (RoOk.ro 0 rfl [] rfl RoOk.nil) rfl <| Hd.nil <| O.l (Lo.buildM (s := 1) encS [[108, 101, 118, 101, 108], (Lv.text ((Lv.new b c).1) ((Lv.new b c).2.1) (k : Int)).1, [100, 101, 99, 105, 100, 101, 100], Lib.itoa e18, [103, 111, 111, 100], Lib.itoa e22] [(0, str ([108, 101, 118, 101, 108])), (1, str ((Lv.text ((Lv.new b c).1) ((Lv.new b c).2.1) (k : Int)).1)), (2, str ([100, 101, 99, 105, 100, 101, 100])), (3, str (Lib.itoa e18)), (4, str ([103, 111, 111, 100])), (5, str (Lib.itoa e22))] (by exact runUnderlying50) (by exact sizeOf9) (by exact zeroValue9) rfl rfl rfl (by kernel_rfl) rfl rfl) rfl ?_
      rintro V23 _ rfl
      refine O.l (Lo.call [V23] (by exact call46) rfl (w_Join V23 ([[108, 101, 118, 101, 108], (Lv.text ((Lv.new b c).1) ((Lv.new b c).2.1) (k : Int)).1, [100, 101, 99, 105, 100, 101, 100], Lib.itoa e18, [103, 111, 111, 100], Lib.itoa e22]) (by simp) (by simp) (by exact Rp.words_le hnm hta htg)) [] [0, 1, 2, 3] (by decide) rfl [row V23 9 1 (([[108, 101, 118, 101, 108], (Lv.text ((Lv.new b c).1) ((Lv.new b c).2.1) (k : Int)).1, [100, 101, 99, 105, 100, 101, 100], Lib.itoa e18, [103, 111, 111, 100], Lib.itoa e22]).map encS), var g14 [pv, V] 83, row V 5 1 (t.map encB), var g2 [.int .i64 ((Lv.new b c).1), .int .i64 ((Lv.new b c).2.1)] 76] rfl (RoOk.of 0 rfl row_rd [] (by decide) rfl RoOk.nil)) rfl ?_
      rintro _ _ ⟨_, ⟨rfl, rfl⟩, rfl⟩
      refine O.p (Pu.sAdd rfl rfl (by simp only [List.length_append, List.length_cons, List.length_nil]; omega)) rfl <| O.l (Lo.call [.pointer (some ⟨g14, 0, none⟩), str ((Lib.join ([[108, 101, 118, 101, 108], (Lv.text ((Lv.new b c).1) ((Lv.new b c).2.1) (k : Int)).1, [100, 101, 99, 105, 100, 101, 100], Lib.itoa e18, [103, 111, 111, 100], Lib.itoa e22]) [32]) ++ ([10]))] (by exact call45) rfl (b_WriteString g14 pv V t ((Lib.join ([[108, 101, 118, 101, 108], (Lv.text ((Lv.new b c).1) ((Lv.new b c).2.1) (k : Int)).1, [100, 101, 99, 105, 100, 101, 100], Lib.itoa e18, [103, 111, 111, 100], Lib.itoa e22]) [32]) ++ ([10])) hp (by simp only [List.length_append, List.length_cons, List.length_nil]; omega)) [1, 2] [0, 3] (by decide) rfl [row V23 9 1 (([[108, 101, 118, 101, 108], (Lv.text ((Lv.new b c).1) ((Lv.new b c).2.1) (k : Int)).1, [100, 101, 99, 105, 100, 101, 100], Lib.itoa e18, [103, 111, 111, 100], Lib.itoa e22]).map encS), var g2 [.int .i64 ((Lv.new b c).1), .int .i64 ((Lv.new b c).2.1)] 76] rfl RoOk.nil) rfl ?_
      rintro _ _ ⟨_, ⟨W25, rfl, rfl⟩, rfl⟩
      refine O.nil <| J.blk <| J.region <| O.p (Pu.add' rfl rfl (by first | omega | (simp only [List.length_append, List.length_cons, List.length_nil, List.length_set]; omega))) rfl <| O.m rfl rfl <| O.nil ?_
      exact J.lp ⟨k + 1, Value.pointer (some ⟨g14, 0, none⟩), W25, t ++ ((Lib.join ([[108, 101, 118, 101, 108], (Lv.text ((Lv.new b c).1) ((Lv.new b c).2.1) (k : Int)).1, [100, 101, 99, 105, 100, 101, 100], Lib.itoa e18, [103, 111, 111, 100], Lib.itoa e22]) [32]) ++ ([10]))⟩ (show (k + 1) ≤ all.length ∧ (t ++ ((Lib.join ([[108, 101, 118, 101, 108], (Lv.text ((Lv.new b c).1) ((Lv.new b c).2.1) (k : Int)).1, [100, 101, 99, 105, 100, 101, 100], Lib.itoa e18, [103, 111, 111, 100], Lib.itoa e22]) [32]) ++ ([10]))) = Rp.tabK b c all good (k + 1) ∧ ((Value.pointer (some ⟨g14, 0, none⟩)) = Value.pointer none ∨ (Value.pointer (some ⟨g14, 0, none⟩)) = Value.pointer (some ⟨g14, 0, none⟩)) ∧ (((t ++ ((Lib.join ([[108, 101, 118, 101, 108], (Lv.text ((Lv.new b c).1) ((Lv.new b c).2.1) (k : Int)).1, [100, 101, 99, 105, 100, 101, 100], Lib.itoa e18, [103, 111, 111, 100], Lib.itoa e22]) [32]) ++ ([10]))) = [] ∧ W25 = Value.slice none 0 0) ∨ (t ++ ((Lib.join ([[108, 101, 118, 101, 108], (Lv.text ((Lv.new b c).1) ((Lv.new b c).2.1) (k : Int)).1, [100, 101, 99, 105, 100, 101, 100], Lib.itoa e18, [103, 111, 111, 100], Lib.itoa e22]) [32]) ++ ([10]))) ≠ []) from ⟨by omega, (by first | (rw [Rp.lineT_join, e1, e2, Rp.tabK_yes he18 he22 ‹_›, ← ht]; done)  | (rw [List.append_assoc, Rp.lineT_join, e1, e2, Rp.tabK_yes he18 he22 ‹_›, ← ht]; done)), .inr rfl, .inr (by simp)⟩) (show all.length - (k + 1) < all.length - k from (by omega)) ⟨rfl, rfl, rfl, rfl, rfl, rfl, rfl, (congrArg (fun z => some (Value.int .i64 z)) (by first | rfl | omega : ((k : Int) + 1 : Int) = ((k + 1) : Int))), trivial⟩ [0, 1, 3] (by decide) rfl
     ·
      have p27 := of_decide_eq_false h19
      refine J.skip <| J.blk <| J.region <| O.p (Pu.add' rfl rfl (by first | omega | (simp only [List.length_append, List.length_cons, List.length_nil, List.length_set]; omega))) rfl <| O.m rfl rfl <| O.nil ?_
      exact J.lp ⟨k + 1, pv, V, t⟩ (show (k + 1) ≤ all.length ∧ t = Rp.tabK b c all good (k + 1) ∧ (pv = Value.pointer none ∨ pv = Value.pointer (some ⟨g14, 0, none⟩)) ∧ ((t = [] ∧ V = Value.slice none 0 0) ∨ t ≠ []) from ⟨by omega, (by rw [Rp.tabK_no he18 ‹_›, ← ht]), hp, hV⟩) (show all.length - (k + 1) < all.length - k from (by omega)) ⟨rfl, rfl, rfl, rfl, rfl, rfl, rfl, (congrArg (fun z => some (Value.int .i64 z)) (by first | rfl | omega : ((k : Int) + 1 : Int) = ((k + 1) : Int))), trivial⟩ [0, 1, 2] (by decide) rfl
    ·
     have p28 := of_decide_eq_false h16
     refine J.exit _ rfl <| J.seq <| J.region <| O.l (Lo.call [.pointer (some ⟨g14, 0, none⟩)] (by exact call48) rfl (b_String g14 pv V t hV) [0, 1] [2] (by decide) rfl [var g2 [.int .i64 ((Lv.new b c).1), .int .i64 ((Lv.new b c).2.1)] 76] rfl RoOk.nil) rfl ?_
     rintro _ _ ⟨_, ⟨rfl, rfl⟩, rfl⟩
     refine O.a rfl rfl <| O.a rfl rfl <| O.nil ?_
     exact J.ret (Fin.ret (rs := [.tmp 8, .tmp 9]) rfl [_, _] ⟨rfl, rfl, trivial⟩ [] (by decide) [] rfl ⟨(by rw [Rp.tab_yes ⟨hr, by omega, by omega⟩ (k := k) (by omega) hk, ← ht]; rfl), rfl⟩)

set_option maxRecDepth 100000 in
set_option maxHeartbeats 1000000 in
theorem r45_Table (b c : Int) (av gv : Value) (all good : List Int) (hA : Kn.I64s all) (hG : Kn.I64s good) (ha1 : all.length ≤ 1000) (hg1 : good.length ≤ 1000) : Tri prog 17 #[.int .i64 b, .int .i64 c, av, gv] [rd av 1 (all.map encZ), rd gv 1 (good.map encZ)] [] (fun v L' => v = .tuple #[str (Rp.tab b c all good).1, .int .i64 (Rp.tab b c all good).2] ∧ L' = []) := by
 refine Tri.enter (args := [.int .i64 b, .int .i64 c, av, gv]) (body := _) 72 func17 rfl ntmps17 rfl ?_
 intro w0
 refine J.seq <| J.region <| O.a rfl rfl <| O.a rfl rfl <| O.nil <| J.seq <| J.seq <| J.region <| O.m rfl rfl <| O.m rfl rfl <| O.l (Lo.call [.int .i64 b, .int .i64 c] (by exact call49) rfl (r08_Right b c) [] [] (by decide) rfl [] rfl RoOk.nil) rfl ?_
 rintro _ _ ⟨_, ⟨rfl, rfl⟩, rfl⟩
 refine O.p (Pu.not rfl) rfl <| O.m rfl rfl ?_
 refine by_bool (!(Lv.right b c)) (fun h2 => ?_) (fun h2 => ?_)
 ·
  have h3 : (Lv.right b c) = false := not_flip h2
  refine O.gskip (t := 18) rfl rfl (no_bool (by rw [h2]; decide)) rfl rfl <| O.gskip (t := 18) rfl rfl (no_bool (by rw [h2]; decide)) rfl rfl <| O.gskip (t := 18) rfl rfl (no_bool (by rw [h2]; decide)) rfl rfl <| O.gskip (t := 18) rfl rfl (no_bool (by rw [h2]; decide)) rfl rfl <| O.gskip (t := 18) rfl rfl (no_bool (by rw [h2]; decide)) rfl rfl <| O.gskip (t := 18) rfl rfl (no_bool (by rw [h2]; decide)) rfl rfl <| O.p (Pu.pickT rfl h2 rfl) rfl <| O.m rfl rfl <| O.gskip (t := 26) rfl rfl (no_bool (by decide)) rfl rfl <| O.gskip (t := 26) rfl rfl (no_bool (by decide)) rfl rfl <| O.gskip (t := 26) rfl rfl (no_bool (by decide)) rfl rfl <| O.gskip (t := 26) rfl rfl (no_bool (by decide)) rfl rfl ?_
  refine O.gskip (t := 26) rfl rfl (no_bool (by decide)) rfl rfl <| O.gskip (t := 26) rfl rfl (no_bool (by decide)) rfl rfl <| O.p (Pu.pickT rfl rfl rfl) rfl <| O.nil <| J.condT rfl rfl <| J.seq <| J.region <| O.a rfl rfl <| O.a rfl rfl <| O.nil ?_
  exact J.ret (Fin.ret (rs := [.tmp 8, .tmp 9]) rfl [_, _] ⟨rfl, rfl, trivial⟩ [] (by decide) [] rfl ⟨(by rw [Rp.tab_no (fun h_ => by have h1_ := h_.1; have h2_ := h_.2.1; have h3_ := h_.2.2; first | omega | simp_all)]; rfl), rfl⟩)
 ·
  have h4 : (Lv.right b c) = true := not_flip h2
  refine O.gq (t := 18) rfl rfl h2 rfl (Pu.qt (Pu.move rfl)) rfl <| O.gq (t := 18) rfl rfl h2 rfl (Qt.lenM runUnderlying34 rfl (Src.ro 0 rfl)) rfl <| O.gq (t := 18) rfl rfl h2 rfl (Pu.qt (Pu.move rfl)) rfl <| O.gq (t := 18) rfl rfl h2 rfl (Pu.qt (Pu.move rfl)) rfl <| O.gq (t := 18) rfl rfl h2 rfl (Pu.qt (Pu.mul' rfl rfl (by first | omega | (have h_ := (Lv.right_iff.1 ‹_›).mul; omega)))) rfl <| O.gq (t := 18) rfl rfl h2 rfl (Pu.qt (Pu.neq rfl rfl)) rfl <| O.p (Pu.pickF rfl h2 rfl) rfl <| O.m rfl rfl ?_
  refine by_bool (decide ((all.length : Int) ≠ (b * c))) (fun h5 => ?_) (fun h5 => ?_)
  ·
   have p6 := of_decide_eq_true h5
   refine O.gskip (t := 26) rfl rfl (no_bool (by rw [h5]; decide)) rfl rfl <| O.gskip (t := 26) rfl rfl (no_bool (by rw [h5]; decide)) rfl rfl <| O.gskip (t := 26) rfl rfl (no_bool (by rw [h5]; decide)) rfl rfl <| O.gskip (t := 26) rfl rfl (no_bool (by rw [h5]; decide)) rfl rfl <| O.gskip (t := 26) rfl rfl (no_bool (by rw [h5]; decide)) rfl rfl <| O.gskip (t := 26) rfl rfl (no_bool (by rw [h5]; decide)) rfl rfl <| O.p (Pu.pickT rfl h5 rfl) rfl <| O.nil <| J.condT rfl rfl <| J.seq <| J.region <| O.a rfl rfl ?_
   refine O.a rfl rfl <| O.nil ?_
   exact J.ret (Fin.ret (rs := [.tmp 8, .tmp 9]) rfl [_, _] ⟨rfl, rfl, trivial⟩ [] (by decide) [] rfl ⟨(by rw [Rp.tab_no (fun h_ => by have h1_ := h_.1; have h2_ := h_.2.1; have h3_ := h_.2.2; first | omega | simp_all)]; rfl), rfl⟩)
  ·
   have p7 := of_decide_eq_false h5
   refine O.gq (t := 26) rfl rfl h5 rfl (Pu.qt (Pu.move rfl)) rfl <| O.gq (t := 26) rfl rfl h5 rfl (Qt.lenM runUnderlying34 rfl (Src.ro 1 rfl)) rfl <| O.gq (t := 26) rfl rfl h5 rfl (Pu.qt (Pu.move rfl)) rfl <| O.gq (t := 26) rfl rfl h5 rfl (Pu.qt (Pu.move rfl)) rfl <| O.gq (t := 26) rfl rfl h5 rfl (Pu.qt (Pu.mul' rfl rfl (by first | omega | (have h_ := (Lv.right_iff.1 ‹_›).mul; omega)))) rfl <| O.gq (t := 26) rfl rfl h5 rfl (Pu.qt (Pu.neq rfl rfl)) rfl <| O.p (Pu.pickF rfl h5 rfl) rfl <| O.nil ?_
   refine J.cond rfl (fun h8 => ?_) (fun h8 => ?_)
   ·
    have p9 := of_decide_eq_true h8
    refine J.seq <| J.region <| O.a rfl rfl <| O.a rfl rfl <| O.nil ?_
    exact J.ret (Fin.ret (rs := [.tmp 8, .tmp 9]) rfl [_, _] ⟨rfl, rfl, trivial⟩ [] (by decide) [] rfl ⟨(by rw [Rp.tab_no (fun h_ => by have h1_ := h_.1; have h2_ := h_.2.1; have h3_ := h_.2.2; first | omega | simp_all)]; rfl), rfl⟩)
   ·
    have p10 := of_decide_eq_false h8
    refine J.skip <| J.seq ?_
    have hr : Lv.right b c = true := by first | assumption | (cases hq_ : Lv.right b c <;> simp_all)
    have hgr := Lv.right_iff.1 hr
    have hbc := hgr.mul
    have hle : all.length = good.length := by omega
    refine J.region <| O.a rfl rfl <| O.nil <| J.seq <| J.seq <| J.region <| O.a rfl rfl <| O.nil <| J.block <| J.loop (X := Nat × List UInt8) (fun ξ => ξ.1 ≤ all.length ∧ ξ.2 = Rp.tabK b c all good ξ.1) (fun ξ => [(0, .int .i64 b), (1, .int .i64 c), (2, av), (3, gv), (8, str ([] : List UInt8)), (9, .int .i64 0), (10, str ξ.2), (11, .int .i64 (ξ.1 : Int))]) (fun ξ => []) (fun ξ => all.length - ξ.1) ⟨0, ([] : List UInt8)⟩ (show 0 ≤ all.length ∧ ([] : List UInt8) = Rp.tabK b c all good 0 from ⟨by omega, rfl⟩) ⟨rfl, rfl, rfl, rfl, rfl, rfl, rfl, (congrArg (fun z => some (Value.int .i64 z)) (by first | rfl | omega : (0 : Int) = (0 : Int))), trivial⟩ [] (by decide) rfl ?_
    rintro ⟨k, t⟩ hq11
    obtain ⟨hk, ht⟩ : k ≤ all.length ∧ t = Rp.tabK b c all good k := hq11
    show J _ _ [(0, .int .i64 b), (1, .int .i64 c), (2, av), (3, gv), (8, str ([] : List UInt8)), (9, .int .i64 0), (10, str t), (11, .int .i64 (k : Int))] []
    refine J.seq <| J.seq <| J.region <| O.m rfl rfl <| O.m rfl rfl <| O.q (Qt.lenM runUnderlying34 rfl (Src.ro 0 rfl)) rfl <| O.p (Pu.lss rfl rfl) rfl <| O.nil ?_
    refine J.cond rfl (fun h12 => ?_) (fun h12 => ?_)
    ·
     have p13 := of_decide_eq_true h12
     refine J.skip <| J.seq <| J.block <| J.seq <| J.region <| O.m rfl rfl <| O.m rfl rfl ?_
     obtain ⟨e14, he14⟩ : ∃ x_, all[k]? = some x_ := ⟨_, List.getElem?_eq_getElem (by omega)⟩
     refine O.q (Qt.idxM runUnderlying34 sizeOf3 rfl (Src.ro 0 rfl) rfl (by omega) (by omega)) rfl <| O.q (Qt.ld rfl (Cel.eltM (Src.ro 0 rfl) he14) (o := (voff av + k * 1)) (off := 0) (by omega) (Cut.one isAgg3 rfl)) rfl <| O.p (Pu.gtr rfl rfl) rfl <| O.nil ?_
     refine J.cond rfl (fun h15 => ?_) (fun h15 => ?_)
     ·
      have p16 := of_decide_eq_true h15
      refine J.seq <| J.region <| O.m rfl rfl <| O.m rfl rfl <| O.m rfl rfl <| O.l (Lo.call [.int .i64 b, .int .i64 c, .int .i64 (k : Int)] (by exact call50) rfl (r08_Text b c (k : Int) (by exact hgr)) [] [] (by decide) rfl [] rfl RoOk.nil) rfl ?_
      rintro _ _ ⟨_, ⟨rfl, rfl⟩, rfl⟩
      refine O.m rfl rfl <| O.p (Pu.extract rfl rfl) rfl <| O.p (Pu.extract rfl rfl) rfl <| O.a rfl rfl <| O.a rfl rfl <| O.nil ?_
      obtain ⟨e18, he18⟩ : ∃ x_, good[k]? = some x_ := ⟨_, List.getElem?_eq_getElem (by omega)⟩
      have hIa := hA _ (List.mem_of_getElem? he14)
      have hIg := hG _ (List.mem_of_getElem? he18)
      have hIa1 := hIa.1
      have hIa2 := hIa.2
      have hIg1 := hIg.1
      have hIg2 := hIg.2
      have hta := Lib.itoa_length_le e14 hIa.1 hIa.2
      have htg := Lib.itoa_length_le e18 hIg.1 hIg.2
      have hnm := Rp.name_len (b := b) (c := c) (l := (k : Int)) hgr
      have htk := Rp.tabK_len (b := b) (c := c) hgr hA hG k
      rw [← ht] at htk
      refine J.drawHead 19 Tryz.mixed (by kernel_rfl) <| Hd.p (Pu.move rfl) rfl <| Hd.p (Pu.sAdd rfl rfl (by simp only [List.length_append, List.length_cons, List.length_nil]; omega)) rfl <| Hd.p (Pu.move rfl) rfl <| Hd.p (Pu.sAdd rfl rfl (by simp only [List.length_append, List.length_cons, List.length_nil]; omega)) rfl <| Hd.p (Pu.sAdd rfl rfl (by simp only [List.length_append, List.length_cons, List.length_nil]; omega)) rfl <| Hd.p (Pu.move rfl) rfl <| Hd.p (Pu.move rfl) rfl <| Hd.q (Qt.idxM runUnderlying34 sizeOf3 rfl (Src.ro 0 rfl) rfl (by omega) (by omega)) rfl <| Hd.q (Qt.ld rfl (Cel.eltM (Src.ro 0 rfl) he14) (o := (voff av + k * 1)) (off := 0) (by omega) (Cut.one isAgg3 rfl)) rfl <| Hd.call (vs := [.int .i64 e14]) (caps := []) (by exact call51) rfl rfl (r05_Text e14 (by first | exact hIa | exact hIg)) (fun _ _ h => h) RoOk.nil rfl <| Hd.p (Pu.sAdd rfl rfl (by simp only [List.length_append, List.length_cons, List.length_nil]; omega)) rfl ?_
      refine Hd.p (Pu.sAdd rfl rfl (by simp only [List.length_append, List.length_cons, List.length_nil]; omega)) rfl <| Hd.p (Pu.move rfl) rfl <| Hd.p (Pu.move rfl) rfl <| Hd.q (Qt.idxM runUnderlying34 sizeOf3 rfl (Src.ro 1 rfl) rfl (by omega) (by omega)) rfl <| Hd.q (Qt.ld rfl (Cel.eltM (Src.ro 1 rfl) he18) (o := (voff gv + k * 1)) (off := 0) (by omega) (Cut.one isAgg3 rfl)) rfl <| Hd.call (vs := [.int .i64 e18]) (caps := []) (by exact call51) rfl rfl (r05_Text e18 (by first | exact hIa | exact hIg)) (fun _ _ h => h) RoOk.nil rfl <| Hd.p (Pu.sAdd rfl rfl (by simp only [List.length_append, List.length_cons, List.length_nil]; omega)) rfl <| Hd.p (Pu.sAdd rfl rfl (by simp only [List.length_append, List.length_cons, List.length_nil]; omega)) rfl <| Hd.nil <| O.a rfl rfl <| O.nil <| J.blk ?_
      refine J.region <| O.m rfl rfl <| O.p (Pu.add' rfl rfl (by first | omega | (have h_ := (Lv.right_iff.1 ‹_›).mul; omega))) rfl <| O.a rfl rfl <| O.nil ?_
      exact J.lp ⟨k + 1, ((((((t ++ ([108, 101, 118, 101, 108, 32])) ++ ((Lv.text b c (k : Int)).1)) ++ ([32, 100, 101, 99, 105, 100, 101, 100, 32])) ++ (Lib.itoa e14)) ++ ([32, 103, 111, 111, 100, 32])) ++ (Lib.itoa e18)) ++ ([10])⟩ (show (k + 1) ≤ all.length ∧ (((((((t ++ ([108, 101, 118, 101, 108, 32])) ++ ((Lv.text b c (k : Int)).1)) ++ ([32, 100, 101, 99, 105, 100, 101, 100, 32])) ++ (Lib.itoa e14)) ++ ([32, 103, 111, 111, 100, 32])) ++ (Lib.itoa e18)) ++ ([10])) = Rp.tabK b c all good (k + 1) from ⟨by omega, (by rw [Rp.tabK_yes he14 he18 ‹_›, ← ht]; simp [Rp.lineT])⟩) (show all.length - (k + 1) < all.length - k from (by omega)) ⟨rfl, rfl, rfl, rfl, rfl, rfl, rfl, (congrArg (fun z => some (Value.int .i64 z)) (by first | rfl | omega : ((k : Int) + 1 : Int) = ((k + 1) : Int))), trivial⟩ [] (by decide) rfl
     ·
      have p19 := of_decide_eq_false h15
      refine J.skip <| J.blk <| J.region <| O.m rfl rfl <| O.p (Pu.add' rfl rfl (by first | omega | (have h_ := (Lv.right_iff.1 ‹_›).mul; omega))) rfl <| O.a rfl rfl <| O.nil ?_
      exact J.lp ⟨k + 1, t⟩ (show (k + 1) ≤ all.length ∧ t = Rp.tabK b c all good (k + 1) from ⟨by omega, (by rw [Rp.tabK_no he14 ‹_›, ← ht])⟩) (show all.length - (k + 1) < all.length - k from (by omega)) ⟨rfl, rfl, rfl, rfl, rfl, rfl, rfl, (congrArg (fun z => some (Value.int .i64 z)) (by first | rfl | omega : ((k : Int) + 1 : Int) = ((k + 1) : Int))), trivial⟩ [] (by decide) rfl
    ·
     have p20 := of_decide_eq_false h12
     refine J.exit _ rfl <| J.seq <| J.region <| O.m rfl rfl <| O.a rfl rfl <| O.a rfl rfl <| O.nil ?_
     exact J.ret (Fin.ret (rs := [.tmp 8, .tmp 9]) rfl [_, _] ⟨rfl, rfl, trivial⟩ [] (by decide) [] rfl ⟨(by rw [Rp.tab_yes ⟨hr, by omega, by omega⟩ (k := k) (by omega) hk, ← ht]; rfl), rfl⟩)

end Go.Proofs.YtnkhmbbnabejhaaGreatDoor
