/-
  Walks, printed by a program of mine (lk.py): each function meets its contract.
-/
import Derived.KernelRfl
import Derived.Test.YtnkhmbbnabejhaaJX3
namespace Go.Proofs.Ytnkhmbbnabejhaa
open Go Go.LK
set_option linter.unusedSimpArgs false

set_option maxRecDepth 100000 in
set_option maxHeartbeats 2000000 in
theorem law32_jobGoes (x0 x1 x2 x3 x4 x5 x6 : Int) (ph : Int) (jv : Value) (js : List Int) (lv : Value) (l : List Int) (ac cd : Int) : Tri Try.prog 7 #[.agg #[.int .i64 x0, .int .i64 x1, .int .i64 x2, .int .i64 x3, .int .i64 x4, .int .i64 x5, .int .i64 x6, .int .i64 ph, jv], lv, .agg #[.int .i64 ac, .int .i64 cd]] [rd jv 1 (js.map encZ), rd lv 1 (l.map encZ)] [] (fun v L' => v = .bool true ∧ L' = []) := by
  refine Tri.enter (args := [.agg #[.int .i64 x0, .int .i64 x1, .int .i64 x2, .int .i64 x3, .int .i64 x4, .int .i64 x5, .int .i64 x6, .int .i64 ph, jv], lv, .agg #[.int .i64 ac, .int .i64 cd]]) (body := _) 158 Try.func7 rfl Try.ntmps7 rfl ?_
  intro w0
  refine J.seq ?_
  refine J.region ?_
  refine O.one (Src.ro 0 rfl) (fun hV2 => ?_)
  refine O.l (Lo.box [.int .i64 x0, .int .i64 x1, .int .i64 x2, .int .i64 x3, .int .i64 x4, .int .i64 x5, .int .i64 x6, .int .i64 ph, jv] rfl rfl) rfl ?_
  rintro _ _ ⟨g1, rfl, rfl⟩
  refine O.l (Lo.box [.int .i64 ac, .int .i64 cd] rfl rfl) rfl ?_
  rintro _ _ ⟨g3, rfl, rfl⟩
  refine O.p (Pu.assign rfl) rfl ?_
  refine O.nil ?_
  refine J.seq ?_
  refine J.seq ?_
  refine J.region ?_
  refine O.p (Pu.fieldAddr (off' := 8) Try.runUnderlying28 rfl Try.sizeOf24 rfl rfl rfl) rfl ?_
  refine O.q (Qt.ld rfl (Cel.var 1 rfl) (o := 0) (off := 8) rfl (Cut.one Try.isAgg24 rfl)) rfl ?_
  refine O.q (Qt.lenM Try.runUnderlying24 rfl (Src.ro 0 rfl)) rfl ?_
  refine O.p (Pu.gtr rfl rfl) rfl ?_
  refine O.p (Pu.move rfl) rfl ?_
  refine by_bool (decide (30 < (js.length : Int))) (fun h4 => ?_) (fun h4 => ?_)
  ·
    have p5 := of_decide_eq_true h4
    refine O.gskip (t := 23) rfl rfl (no_bool (by rw [h4]; decide)) rfl rfl ?_
    refine O.gskip (t := 23) rfl rfl (no_bool (by rw [h4]; decide)) rfl rfl ?_
    refine O.gskip (t := 23) rfl rfl (no_bool (by rw [h4]; decide)) rfl rfl ?_
    refine O.p (Pu.pickT rfl h4 rfl) rfl ?_
    refine O.nil ?_
    refine J.condT rfl rfl ?_
    refine J.seq ?_
    refine J.region ?_
    refine O.l (Lo.call [] (by exact Try.call11) rfl law32_awake [] [0, 1] (by decide) rfl [var g3 [.int .i64 ac, .int .i64 cd] 35, var g1 [.int .i64 x0, .int .i64 x1, .int .i64 x2, .int .i64 x3, .int .i64 x4, .int .i64 x5, .int .i64 x6, .int .i64 ph, jv] 28] rfl RoOk.nil) rfl ?_
    rintro _ _ ⟨_, ⟨rfl, rfl⟩, rfl⟩
    refine O.p (Pu.assign rfl) rfl ?_
    refine O.nil ?_
    exact J.ret (Fin.ret (rs := [.tmp 6]) rfl [_] ⟨rfl, trivial⟩ [] (by decide) [] rfl ⟨rfl, rfl⟩)
  ·
    have p7 := of_decide_eq_false h4
    refine O.gq (t := 23) rfl rfl h4 rfl (Pu.qt (Pu.move rfl)) rfl ?_
    refine O.gq (t := 23) rfl rfl h4 rfl (Qt.lenM Try.runUnderlying24 rfl (Src.ro 1 rfl)) rfl ?_
    refine O.gq (t := 23) rfl rfl h4 rfl (Pu.qt (Pu.gtr rfl rfl)) rfl ?_
    refine O.p (Pu.pickF rfl h4 rfl) rfl ?_
    refine O.nil ?_
    refine J.cond rfl (fun h8 => ?_) (fun h8 => ?_)
    ·
      have p9 := of_decide_eq_true h8
      refine J.seq ?_
      refine J.region ?_
      refine O.l (Lo.call [] (by exact Try.call11) rfl law32_awake [] [0, 1] (by decide) rfl [var g3 [.int .i64 ac, .int .i64 cd] 35, var g1 [.int .i64 x0, .int .i64 x1, .int .i64 x2, .int .i64 x3, .int .i64 x4, .int .i64 x5, .int .i64 x6, .int .i64 ph, jv] 28] rfl RoOk.nil) rfl ?_
      rintro _ _ ⟨_, ⟨rfl, rfl⟩, rfl⟩
      refine O.p (Pu.assign rfl) rfl ?_
      refine O.nil ?_
      exact J.ret (Fin.ret (rs := [.tmp 6]) rfl [_] ⟨rfl, trivial⟩ [] (by decide) [] rfl ⟨rfl, rfl⟩)
    ·
      have p11 := of_decide_eq_false h8
      refine J.skip ?_
      refine J.seq ?_
      refine J.region ?_
      refine O.p (Pu.fieldAddr (off' := 8) Try.runUnderlying28 rfl Try.sizeOf24 rfl rfl rfl) rfl ?_
      refine O.q (Qt.ld rfl (Cel.var 1 rfl) (o := 0) (off := 8) rfl (Cut.one Try.isAgg24 rfl)) rfl ?_
      refine O.l (Lo.call [jv] (by exact Try.call31) rfl (r32_Rising jv js (by first | omega | (simp; done) | (have h_ := Jb.rising_len (l := js); first | omega | (have h2_ := Jb.without_len (l := Jb.rising js) (c := ac); omega)) | (have h_ := Jb.rising_len (l := l); omega))) [] [0, 1] (by decide) rfl [var g3 [.int .i64 ac, .int .i64 cd] 35, var g1 [.int .i64 x0, .int .i64 x1, .int .i64 x2, .int .i64 x3, .int .i64 x4, .int .i64 x5, .int .i64 x6, .int .i64 ph, jv] 28] rfl (RoOk.ro 0 rfl [] rfl RoOk.nil)) rfl ?_
      rintro v12 _ ⟨_, rfl, rfl⟩
      refine O.p (Pu.fieldAddr (off' := 8) Try.runUnderlying28 rfl Try.sizeOf24 rfl rfl rfl) rfl ?_
      refine O.one (Src.row 0 rfl) (fun hV13 => ?_)
      refine O.l0 (Lo.store 2 (vs := [v12]) [.int .i64 x0, .int .i64 x1, .int .i64 x2, .int .i64 x3, .int .i64 x4, .int .i64 x5, .int .i64 x6, .int .i64 ph, v12] rfl rfl rfl (by exact Try.sizeOf24) (one_cells hV13) rfl (one_all hV13) rfl rfl) ?_
      rintro _ _ rfl
      refine O.nil ?_
      refine J.seq ?_
      refine by_bool (decide (ph = 1)) (fun h14 => ?_) (fun h14 => ?_)
      ·
        have p15 := of_decide_eq_true h14
        obtain rfl : ph = 1 := of_decide_eq_true h14
        refine by_bool (decide (l = [])) (fun h16 => ?_) (fun h16 => ?_)
        ·
          have p17 := of_decide_eq_true h16
          refine J.nilRow 3 1 ?_
          show J _ _ _ [row (Value.slice none 0 0) 3 1 (([] : List Int).map encZ), row v12 3 1 ((Jb.rising js).map encZ), var g3 [.int .i64 ac, .int .i64 cd] 35, var g1 [.int .i64 x0, .int .i64 x1, .int .i64 x2, .int .i64 x3, .int .i64 x4, .int .i64 x5, .int .i64 x6, .int .i64 1, v12] 28]
          refine J.region ?_
          refine O.q (Qt.ld rfl (Cel.var 3 rfl) (o := 0) (off := 0) rfl (Cut.agg [.int .i64 x0, .int .i64 x1, .int .i64 x2, .int .i64 x3, .int .i64 x4, .int .i64 x5, .int .i64 x6, .int .i64 1, v12] Try.isAgg28 Try.sizeOf28 rfl rfl)) rfl ?_
          refine O.p (Pu.move rfl) rfl ?_
          refine O.l (Lo.call [.agg #[.int .i64 x0, .int .i64 x1, .int .i64 x2, .int .i64 x3, .int .i64 x4, .int .i64 x5, .int .i64 x6, .int .i64 1, v12], lv] (by exact Try.call12) rfl (jb_DoneE2 x0 x1 x2 x3 x4 x5 x6 v12 lv hV13 l (of_decide_eq_true h16)) [] [0, 1, 2, 3] (by decide) rfl [row (Value.slice none 0 0) 3 1 (([] : List Int).map encZ), row v12 3 1 ((Jb.rising js).map encZ), var g3 [.int .i64 ac, .int .i64 cd] 35, var g1 [.int .i64 x0, .int .i64 x1, .int .i64 x2, .int .i64 x3, .int .i64 x4, .int .i64 x5, .int .i64 x6, .int .i64 1, v12] 28] rfl (RoOk.ro 1 rfl [] rfl RoOk.nil)) rfl ?_
          rintro _ _ ⟨_, ⟨rfl, rfl⟩, rfl⟩
          refine O.p (Pu.move rfl) rfl ?_
          refine O.p (Pu.extract rfl rfl) rfl ?_
          refine O.p (Pu.extract rfl rfl) rfl ?_
          refine O.p (Pu.extract rfl rfl) rfl ?_
          refine O.l (Lo.alloc [.int .i64 0, .int .i64 0, .int .i64 0, .int .i64 0, .int .i64 0, .int .i64 0, .int .i64 0, .int .i64 0, Value.slice none 0 0] (by exact Try.zeroValue28) rfl) rfl ?_
          rintro _ _ ⟨g19, rfl, rfl⟩
          refine O.l0 (Lo.store 0 (vs := [.int .i64 0, .int .i64 0, .int .i64 0, .int .i64 0, .int .i64 0, .int .i64 0, .int .i64 0, .int .i64 0, Value.slice none 0 0]) [.int .i64 0, .int .i64 0, .int .i64 0, .int .i64 0, .int .i64 0, .int .i64 0, .int .i64 0, .int .i64 0, Value.slice none 0 0] rfl rfl rfl (by exact Try.sizeOf28) rfl rfl rfl rfl rfl) ?_
          rintro _ _ rfl
          refine O.p (Pu.assign rfl) rfl ?_
          refine O.p (Pu.assign rfl) rfl ?_
          refine O.nil ?_
          refine J.seq ?_
          refine J.region ?_
          refine O.q (Qt.ld rfl (Cel.var 4 rfl) (o := 0) (off := 0) rfl (Cut.agg [.int .i64 x0, .int .i64 x1, .int .i64 x2, .int .i64 x3, .int .i64 x4, .int .i64 x5, .int .i64 x6, .int .i64 1, v12] Try.isAgg28 Try.sizeOf28 rfl rfl)) rfl ?_
          refine O.p (Pu.move rfl) rfl ?_
          refine O.l (Lo.call [.agg #[.int .i64 x0, .int .i64 x1, .int .i64 x2, .int .i64 x3, .int .i64 x4, .int .i64 x5, .int .i64 x6, .int .i64 1, v12], lv] (by exact Try.call32) rfl (r32_DoneE2 x0 x1 x2 x3 x4 x5 x6 v12 lv hV13 l (of_decide_eq_true h16)) [] [0, 1, 2, 3, 4] (by decide) rfl [var g19 [.int .i64 0, .int .i64 0, .int .i64 0, .int .i64 0, .int .i64 0, .int .i64 0, .int .i64 0, .int .i64 0, Value.slice none 0 0] 28, row (Value.slice none 0 0) 3 1 (([] : List Int).map encZ), row v12 3 1 ((Jb.rising js).map encZ), var g3 [.int .i64 ac, .int .i64 cd] 35, var g1 [.int .i64 x0, .int .i64 x1, .int .i64 x2, .int .i64 x3, .int .i64 x4, .int .i64 x5, .int .i64 x6, .int .i64 1, v12] 28] rfl (RoOk.ro 1 rfl [] rfl RoOk.nil)) rfl ?_
          rintro _ _ ⟨_, ⟨rfl, rfl⟩, rfl⟩
          refine O.p (Pu.move rfl) rfl ?_
          refine O.p (Pu.extract rfl rfl) rfl ?_
          refine O.p (Pu.extract rfl rfl) rfl ?_
          refine O.p (Pu.extract rfl rfl) rfl ?_
          refine O.l (Lo.alloc [.int .i64 0, .int .i64 0, .int .i64 0, .int .i64 0, .int .i64 0, .int .i64 0, .int .i64 0, .int .i64 0, Value.slice none 0 0] (by exact Try.zeroValue28) rfl) rfl ?_
          rintro _ _ ⟨g21, rfl, rfl⟩
          refine O.l0 (Lo.store 0 (vs := [.int .i64 0, .int .i64 0, .int .i64 0, .int .i64 0, .int .i64 0, .int .i64 0, .int .i64 0, .int .i64 0, Value.slice none 0 0]) [.int .i64 0, .int .i64 0, .int .i64 0, .int .i64 0, .int .i64 0, .int .i64 0, .int .i64 0, .int .i64 0, Value.slice none 0 0] rfl rfl rfl (by exact Try.sizeOf28) rfl rfl rfl rfl rfl) ?_
          rintro _ _ rfl
          refine O.p (Pu.assign rfl) rfl ?_
          refine O.p (Pu.assign rfl) rfl ?_
          refine O.nil ?_
          refine J.seq ?_
          refine J.region ?_
          refine O.q (Qt.ld rfl (Cel.var 5 rfl) (o := 0) (off := 0) rfl (Cut.agg [.int .i64 x0, .int .i64 x1, .int .i64 x2, .int .i64 x3, .int .i64 x4, .int .i64 x5, .int .i64 x6, .int .i64 1, v12] Try.isAgg28 Try.sizeOf28 rfl rfl)) rfl ?_
          refine O.p (Pu.fieldAddr (off' := 0) Try.runUnderlying35 rfl Try.sizeOf3 rfl rfl rfl) rfl ?_
          refine O.q (Qt.ld rfl (Cel.var 4 rfl) (o := 0) (off := 0) rfl (Cut.one Try.isAgg3 rfl)) rfl ?_
          refine O.p (Pu.fieldAddr (off' := 1) Try.runUnderlying35 rfl Try.sizeOf3 rfl rfl rfl) rfl ?_
          refine O.q (Qt.ld rfl (Cel.var 4 rfl) (o := 0) (off := 1) rfl (Cut.one Try.isAgg3 rfl)) rfl ?_
          refine O.l (Lo.call [.agg #[.int .i64 x0, .int .i64 x1, .int .i64 x2, .int .i64 x3, .int .i64 x4, .int .i64 x5, .int .i64 x6, .int .i64 1, v12], .int .i64 ac, .int .i64 cd] (by exact Try.call14) rfl (jb_HeardNo x0 x1 x2 x3 x4 x5 x6 1 v12 (Jb.rising js) ac cd (by first | omega | (simp; done) | (have h_ := Jb.rising_len (l := js); first | omega | (have h2_ := Jb.without_len (l := Jb.rising js) (c := ac); omega)) | (have h_ := Jb.rising_len (l := l); omega)) (.inl (by decide))) [] [0, 1, 2, 3, 4, 5] (by decide) rfl [var g21 [.int .i64 0, .int .i64 0, .int .i64 0, .int .i64 0, .int .i64 0, .int .i64 0, .int .i64 0, .int .i64 0, Value.slice none 0 0] 28, var g19 [.int .i64 0, .int .i64 0, .int .i64 0, .int .i64 0, .int .i64 0, .int .i64 0, .int .i64 0, .int .i64 0, Value.slice none 0 0] 28, row (Value.slice none 0 0) 3 1 (([] : List Int).map encZ), row v12 3 1 ((Jb.rising js).map encZ), var g3 [.int .i64 ac, .int .i64 cd] 35, var g1 [.int .i64 x0, .int .i64 x1, .int .i64 x2, .int .i64 x3, .int .i64 x4, .int .i64 x5, .int .i64 x6, .int .i64 1, v12] 28] rfl (RoOk.of 3 rfl row_rd [] (by decide) rfl RoOk.nil)) rfl ?_
          rintro _ _ ⟨_, ⟨V22, rfl, rfl⟩, rfl⟩
          refine O.p (Pu.move rfl) rfl ?_
          refine O.p (Pu.extract rfl rfl) rfl ?_
          refine O.p (Pu.extract rfl rfl) rfl ?_
          refine O.l (Lo.alloc [.int .i64 0, .int .i64 0, .int .i64 0, .int .i64 0, .int .i64 0, .int .i64 0, .int .i64 0, .int .i64 0, Value.slice none 0 0] (by exact Try.zeroValue28) rfl) rfl ?_
          rintro _ _ ⟨g24, rfl, rfl⟩
          refine O.one (Src.row 1 rfl) (fun hV25 => ?_)
          refine O.l0 (Lo.store 0 (vs := [.int .i64 x0, .int .i64 x1, .int .i64 x2, .int .i64 x3, .int .i64 x4, .int .i64 x5, .int .i64 x6, .int .i64 1, V22]) [.int .i64 x0, .int .i64 x1, .int .i64 x2, .int .i64 x3, .int .i64 x4, .int .i64 x5, .int .i64 x6, .int .i64 1, V22] rfl rfl rfl (by exact Try.sizeOf28) rfl rfl (by simp only [List.all_cons, List.all_nil, Bool.and_true, hV25] <;> rfl) rfl rfl) ?_
          rintro _ _ rfl
          refine O.p (Pu.assign rfl) rfl ?_
          refine O.nil ?_
          refine J.seq ?_
          refine J.region ?_
          refine O.q (Qt.ld rfl (Cel.var 7 rfl) (o := 0) (off := 0) rfl (Cut.agg [.int .i64 x0, .int .i64 x1, .int .i64 x2, .int .i64 x3, .int .i64 x4, .int .i64 x5, .int .i64 x6, .int .i64 1, v12] Try.isAgg28 Try.sizeOf28 rfl rfl)) rfl ?_
          refine O.p (Pu.fieldAddr (off' := 0) Try.runUnderlying35 rfl Try.sizeOf3 rfl rfl rfl) rfl ?_
          refine O.q (Qt.ld rfl (Cel.var 6 rfl) (o := 0) (off := 0) rfl (Cut.one Try.isAgg3 rfl)) rfl ?_
          refine O.p (Pu.fieldAddr (off' := 1) Try.runUnderlying35 rfl Try.sizeOf3 rfl rfl rfl) rfl ?_
          refine O.q (Qt.ld rfl (Cel.var 6 rfl) (o := 0) (off := 1) rfl (Cut.one Try.isAgg3 rfl)) rfl ?_
          refine O.l (Lo.call [.agg #[.int .i64 x0, .int .i64 x1, .int .i64 x2, .int .i64 x3, .int .i64 x4, .int .i64 x5, .int .i64 x6, .int .i64 1, v12], .int .i64 ac, .int .i64 cd] (by exact Try.call33) rfl (r32_HeardNo x0 x1 x2 x3 x4 x5 x6 1 v12 (Jb.rising js) ac cd (by first | omega | (simp; done) | (have h_ := Jb.rising_len (l := js); first | omega | (have h2_ := Jb.without_len (l := Jb.rising js) (c := ac); omega)) | (have h_ := Jb.rising_len (l := l); omega)) (.inl (by decide))) [] [0, 1, 2, 3, 4, 5, 6, 7] (by decide) rfl [var g24 [.int .i64 x0, .int .i64 x1, .int .i64 x2, .int .i64 x3, .int .i64 x4, .int .i64 x5, .int .i64 x6, .int .i64 1, V22] 28, row V22 3 1 ((Jb.rising js).map encZ), var g21 [.int .i64 0, .int .i64 0, .int .i64 0, .int .i64 0, .int .i64 0, .int .i64 0, .int .i64 0, .int .i64 0, Value.slice none 0 0] 28, var g19 [.int .i64 0, .int .i64 0, .int .i64 0, .int .i64 0, .int .i64 0, .int .i64 0, .int .i64 0, .int .i64 0, Value.slice none 0 0] 28, row (Value.slice none 0 0) 3 1 (([] : List Int).map encZ), row v12 3 1 ((Jb.rising js).map encZ), var g3 [.int .i64 ac, .int .i64 cd] 35, var g1 [.int .i64 x0, .int .i64 x1, .int .i64 x2, .int .i64 x3, .int .i64 x4, .int .i64 x5, .int .i64 x6, .int .i64 1, v12] 28] rfl (RoOk.of 5 rfl row_rd [] (by decide) rfl RoOk.nil)) rfl ?_
          rintro _ _ ⟨_, ⟨rfl, rfl⟩, rfl⟩
          refine O.p (Pu.move rfl) rfl ?_
          refine O.p (Pu.extract rfl rfl) rfl ?_
          refine O.p (Pu.extract rfl rfl) rfl ?_
          refine O.l (Lo.alloc [.int .i64 0, .int .i64 0, .int .i64 0, .int .i64 0, .int .i64 0, .int .i64 0, .int .i64 0, .int .i64 0, Value.slice none 0 0] (by exact Try.zeroValue28) rfl) rfl ?_
          rintro _ _ ⟨g27, rfl, rfl⟩
          refine O.l0 (Lo.store 0 (vs := [.int .i64 x0, .int .i64 x1, .int .i64 x2, .int .i64 x3, .int .i64 x4, .int .i64 x5, .int .i64 x6, .int .i64 1, v12]) [.int .i64 x0, .int .i64 x1, .int .i64 x2, .int .i64 x3, .int .i64 x4, .int .i64 x5, .int .i64 x6, .int .i64 1, v12] rfl rfl rfl (by exact Try.sizeOf28) rfl rfl (by simp only [List.all_cons, List.all_nil, Bool.and_true, hV13] <;> rfl) rfl rfl) ?_
          rintro _ _ rfl
          refine O.p (Pu.assign rfl) rfl ?_
          refine O.nil ?_
          refine J.seq ?_
          refine J.region ?_
          refine O.q (Qt.ld rfl (Cel.var 8 rfl) (o := 0) (off := 0) rfl (Cut.agg [.int .i64 x0, .int .i64 x1, .int .i64 x2, .int .i64 x3, .int .i64 x4, .int .i64 x5, .int .i64 x6, .int .i64 1, v12] Try.isAgg28 Try.sizeOf28 rfl rfl)) rfl ?_
          refine O.l (Lo.call [.agg #[.int .i64 x0, .int .i64 x1, .int .i64 x2, .int .i64 x3, .int .i64 x4, .int .i64 x5, .int .i64 x6, .int .i64 1, v12]] (by exact Try.call34) rfl (jb_Broken x0 x1 x2 x3 x4 x5 x6 v12 hV13) [] [0, 1, 2, 3, 4, 5, 6, 7, 8] (by decide) rfl [var g27 [.int .i64 x0, .int .i64 x1, .int .i64 x2, .int .i64 x3, .int .i64 x4, .int .i64 x5, .int .i64 x6, .int .i64 1, v12] 28, var g24 [.int .i64 x0, .int .i64 x1, .int .i64 x2, .int .i64 x3, .int .i64 x4, .int .i64 x5, .int .i64 x6, .int .i64 1, V22] 28, row V22 3 1 ((Jb.rising js).map encZ), var g21 [.int .i64 0, .int .i64 0, .int .i64 0, .int .i64 0, .int .i64 0, .int .i64 0, .int .i64 0, .int .i64 0, Value.slice none 0 0] 28, var g19 [.int .i64 0, .int .i64 0, .int .i64 0, .int .i64 0, .int .i64 0, .int .i64 0, .int .i64 0, .int .i64 0, Value.slice none 0 0] 28, row (Value.slice none 0 0) 3 1 (([] : List Int).map encZ), row v12 3 1 ((Jb.rising js).map encZ), var g3 [.int .i64 ac, .int .i64 cd] 35, var g1 [.int .i64 x0, .int .i64 x1, .int .i64 x2, .int .i64 x3, .int .i64 x4, .int .i64 x5, .int .i64 x6, .int .i64 1, v12] 28] rfl RoOk.nil) rfl ?_
          rintro _ _ ⟨_, ⟨rfl, rfl⟩, rfl⟩
          refine O.p (Pu.move rfl) rfl ?_
          refine O.p (Pu.extract rfl rfl) rfl ?_
          refine O.p (Pu.extract rfl rfl) rfl ?_
          refine O.p (Pu.assign rfl) rfl ?_
          refine O.p (Pu.assign rfl) rfl ?_
          refine O.nil ?_
          refine J.seq ?_
          refine J.seq ?_
          refine J.drawMix [(0, false), (1, false), (2, false), (3, false), (4, false), (5, false), (6, false), (7, false), (8, false), (9, false), (10, false), (11, false), (12, false), (13, false), (14, false), (15, false), (16, false), (17, false), (18, false), (19, false), (20, false), (21, false), (22, false), (23, false), (24, false), (25, false), (26, false), (27, false), (28, false), (29, false), (30, false), (31, false), (32, false), (33, false), (34, false), (35, false), (36, false), (37, false), (38, false), (39, false), (40, false), (41, false), (42, false), (43, false), (44, false), (45, false), (46, false), (47, false), (48, false), (49, false), (50, false), (51, false), (52, false), (53, false), (54, false), (55, false), (56, false), (57, false), (58, false), (59, false), (60, false), (61, false), (62, false), (63, false)] [0, 1, 2, 3, 4, 5, 6, 7, 8] [var g27 [.int .i64 x0, .int .i64 x1, .int .i64 x2, .int .i64 x3, .int .i64 x4, .int .i64 x5, .int .i64 x6, .int .i64 1, v12] 28, var g24 [.int .i64 x0, .int .i64 x1, .int .i64 x2, .int .i64 x3, .int .i64 x4, .int .i64 x5, .int .i64 x6, .int .i64 1, V22] 28, row V22 3 1 ((Jb.rising js).map encZ), var g21 [.int .i64 0, .int .i64 0, .int .i64 0, .int .i64 0, .int .i64 0, .int .i64 0, .int .i64 0, .int .i64 0, Value.slice none 0 0] 28, var g19 [.int .i64 0, .int .i64 0, .int .i64 0, .int .i64 0, .int .i64 0, .int .i64 0, .int .i64 0, .int .i64 0, Value.slice none 0 0] 28, row (Value.slice none 0 0) 3 1 (([] : List Int).map encZ), row v12 3 1 ((Jb.rising js).map encZ), var g3 [.int .i64 ac, .int .i64 cd] 35, var g1 [.int .i64 x0, .int .i64 x1, .int .i64 x2, .int .i64 x3, .int .i64 x4, .int .i64 x5, .int .i64 x6, .int .i64 1, v12] 28] Try.mixed (by kernel_rfl) (by decide) rfl ?_
          refine Mx.q rfl (Qt.ld rfl (Cel.var 4 rfl) (o := 0) (off := 0) rfl (Cut.agg [.int .i64 0, .int .i64 0, .int .i64 0, .int .i64 0, .int .i64 0, .int .i64 0, .int .i64 0, .int .i64 0, Value.slice none 0 0] Try.isAgg28 Try.sizeOf28 rfl rfl)) rfl ?_
          refine Mx.q rfl (Qt.ld rfl (Cel.var 3 rfl) (o := 0) (off := 0) rfl (Cut.agg [.int .i64 0, .int .i64 0, .int .i64 0, .int .i64 0, .int .i64 0, .int .i64 0, .int .i64 0, .int .i64 0, Value.slice none 0 0] Try.isAgg28 Try.sizeOf28 rfl rfl)) rfl ?_
          refine Mx.call (vs := [.agg #[.int .i64 0, .int .i64 0, .int .i64 0, .int .i64 0, .int .i64 0, .int .i64 0, .int .i64 0, .int .i64 0, Value.slice none 0 0], .agg #[.int .i64 0, .int .i64 0, .int .i64 0, .int .i64 0, .int .i64 0, .int .i64 0, .int .i64 0, .int .i64 0, Value.slice none 0 0]]) (caps := []) rfl (by exact Try.call15) rfl rfl (r32_Same 0 0 0 0 0 0 0 0 (Value.slice none 0 0) ([] : List Int) 0 0 0 0 0 0 0 0 (Value.slice none 0 0) ([] : List Int) (by first | omega | (simp; done) | (have h_ := Jb.rising_len (l := js); first | omega | (have h2_ := Jb.without_len (l := Jb.rising js) (c := ac); omega)) | (have h_ := Jb.rising_len (l := l); omega)) (by first | omega | (simp; done) | (have h_ := Jb.rising_len (l := js); first | omega | (have h2_ := Jb.without_len (l := Jb.rising js) (c := ac); omega)) | (have h_ := Jb.rising_len (l := l); omega))) (fun _ _ h => h) (RoOk.of 5 rfl row_rd [] (by decide) rfl (RoOk.of 5 rfl row_rd [] (by decide) rfl RoOk.nil)) rfl ?_
          refine Mx.p rfl (Pu.not rfl) rfl ?_
          refine Mx.p rfl (Pu.move rfl) rfl ?_
          refine Mx.gq (t := 74) rfl rfl rfl (not_of_true (by simp)) rfl (Pu.qt (Pu.move rfl)) rfl ?_
          refine Mx.gq (t := 74) rfl rfl rfl (not_of_true (by simp)) rfl (Pu.qt (Pu.move rfl)) rfl ?_
          refine Mx.gq (t := 74) rfl rfl rfl (not_of_true (by simp)) rfl (Pu.qt (Pu.neq rfl rfl)) rfl ?_
          refine Mx.p rfl (Pu.pickF rfl (not_of_true (by simp)) rfl) rfl ?_
          refine Mx.p rfl (Pu.move rfl) rfl ?_
          refine Mx.gq (t := 79) rfl rfl rfl rfl rfl (Pu.qt (Pu.move rfl)) rfl ?_
          refine Mx.gq (t := 79) rfl rfl rfl rfl rfl (Pu.qt (Pu.move rfl)) rfl ?_
          refine Mx.gq (t := 79) rfl rfl rfl rfl rfl (Pu.qt (Pu.neq rfl rfl)) rfl ?_
          refine Mx.p rfl (Pu.pickF rfl rfl rfl) rfl ?_
          refine Mx.p rfl (Pu.move rfl) rfl ?_
          refine Mx.gq (t := 84) rfl rfl rfl rfl rfl (Qt.ld rfl (Cel.var 1 rfl) (o := 0) (off := 0) rfl (Cut.agg [.int .i64 x0, .int .i64 x1, .int .i64 x2, .int .i64 x3, .int .i64 x4, .int .i64 x5, .int .i64 x6, .int .i64 1, V22] Try.isAgg28 Try.sizeOf28 rfl rfl)) rfl ?_
          refine Mx.gq (t := 84) rfl rfl rfl rfl rfl (Qt.ld rfl (Cel.var 0 rfl) (o := 0) (off := 0) rfl (Cut.agg [.int .i64 x0, .int .i64 x1, .int .i64 x2, .int .i64 x3, .int .i64 x4, .int .i64 x5, .int .i64 x6, .int .i64 1, v12] Try.isAgg28 Try.sizeOf28 rfl rfl)) rfl ?_
          refine Mx.gcall (vs := [.agg #[.int .i64 x0, .int .i64 x1, .int .i64 x2, .int .i64 x3, .int .i64 x4, .int .i64 x5, .int .i64 x6, .int .i64 1, V22], .agg #[.int .i64 x0, .int .i64 x1, .int .i64 x2, .int .i64 x3, .int .i64 x4, .int .i64 x5, .int .i64 x6, .int .i64 1, v12]]) (caps := []) (t := 84) rfl rfl rfl rfl rfl (by exact Try.call15) rfl rfl (r32_Same x0 x1 x2 x3 x4 x5 x6 1 V22 (Jb.rising js) x0 x1 x2 x3 x4 x5 x6 1 v12 (Jb.rising js) (by first | omega | (simp; done) | (have h_ := Jb.rising_len (l := js); first | omega | (have h2_ := Jb.without_len (l := Jb.rising js) (c := ac); omega)) | (have h_ := Jb.rising_len (l := l); omega)) (by first | omega | (simp; done) | (have h_ := Jb.rising_len (l := js); first | omega | (have h2_ := Jb.without_len (l := Jb.rising js) (c := ac); omega)) | (have h_ := Jb.rising_len (l := l); omega))) (fun _ _ h => h) (RoOk.of 2 rfl row_rd [] (by decide) rfl (RoOk.of 6 rfl row_rd [] (by decide) rfl RoOk.nil)) rfl ?_
          refine Mx.gq (t := 84) rfl rfl rfl rfl rfl (Pu.qt (Pu.not rfl)) rfl ?_
          refine Mx.p rfl (Pu.pickF rfl rfl rfl) rfl ?_
          refine Mx.p rfl (Pu.move rfl) rfl ?_
          refine Mx.gq (t := 90) rfl rfl rfl (not_of_true (by simp)) rfl (Pu.qt (Pu.move rfl)) rfl ?_
          refine Mx.gq (t := 90) rfl rfl rfl (not_of_true (by simp)) rfl (Pu.qt (Pu.move rfl)) rfl ?_
          refine Mx.gq (t := 90) rfl rfl rfl (not_of_true (by simp)) rfl (Pu.qt (Pu.neq rfl rfl)) rfl ?_
          refine Mx.p rfl (Pu.pickF rfl (not_of_true (by simp)) rfl) rfl ?_
          refine Mx.p rfl (Pu.move rfl) rfl ?_
          refine Mx.gq (t := 95) rfl rfl rfl rfl rfl (Qt.ld rfl (Cel.var 8 rfl) (o := 0) (off := 0) rfl (Cut.agg [.int .i64 x0, .int .i64 x1, .int .i64 x2, .int .i64 x3, .int .i64 x4, .int .i64 x5, .int .i64 x6, .int .i64 1, v12] Try.isAgg28 Try.sizeOf28 rfl rfl)) rfl ?_
          refine Mx.gq (t := 95) rfl rfl rfl rfl rfl (Pu.qt (Pu.fieldAddr (off' := 1) Try.runUnderlying35 rfl Try.sizeOf3 rfl rfl rfl)) rfl ?_
          refine Mx.gq (t := 95) rfl rfl rfl rfl rfl (Qt.ld rfl (Cel.var 7 rfl) (o := 0) (off := 1) rfl (Cut.one Try.isAgg3 rfl)) rfl ?_
          refine Mx.gcall (vs := [.agg #[.int .i64 x0, .int .i64 x1, .int .i64 x2, .int .i64 x3, .int .i64 x4, .int .i64 x5, .int .i64 x6, .int .i64 1, v12], .int .i64 cd]) (caps := []) (t := 95) rfl rfl rfl rfl rfl (by exact Try.call35) rfl rfl (jb_Ends x0 x1 x2 x3 x4 x5 x6 1 cd v12 hV13) (fun _ _ h => h) RoOk.nil rfl ?_
          refine Mx.gq (t := 95) rfl rfl rfl rfl rfl (Qt.ld rfl (Cel.var 8 rfl) (o := 0) (off := 0) rfl (Cut.agg [.int .i64 x0, .int .i64 x1, .int .i64 x2, .int .i64 x3, .int .i64 x4, .int .i64 x5, .int .i64 x6, .int .i64 1, v12] Try.isAgg28 Try.sizeOf28 rfl rfl)) rfl ?_
          refine Mx.gq (t := 95) rfl rfl rfl rfl rfl (Pu.qt (Pu.fieldAddr (off' := 1) Try.runUnderlying35 rfl Try.sizeOf3 rfl rfl rfl)) rfl ?_
          refine Mx.gq (t := 95) rfl rfl rfl rfl rfl (Qt.ld rfl (Cel.var 7 rfl) (o := 0) (off := 1) rfl (Cut.one Try.isAgg3 rfl)) rfl ?_
          refine Mx.gcall (vs := [.agg #[.int .i64 x0, .int .i64 x1, .int .i64 x2, .int .i64 x3, .int .i64 x4, .int .i64 x5, .int .i64 x6, .int .i64 1, v12], .int .i64 cd]) (caps := []) (t := 95) rfl rfl rfl rfl rfl (by exact Try.call36) rfl rfl (r32_Ends x0 x1 x2 x3 x4 x5 x6 1 cd v12 hV13) (fun _ _ h => h) RoOk.nil rfl ?_
          refine Mx.gq (t := 95) rfl rfl rfl rfl rfl (Pu.qt (Pu.neq rfl rfl)) rfl ?_
          refine Mx.p rfl (Pu.pickF rfl rfl rfl) rfl ?_
          refine Mx.p rfl (Pu.move rfl) rfl ?_
          refine Mx.gq (t := 106) rfl rfl rfl (by simp) rfl (Pu.qt (Pu.move rfl)) rfl ?_
          refine Mx.gq (t := 106) rfl rfl rfl (by simp) rfl (Pu.qt (Pu.eql rfl rfl)) rfl ?_
          refine Mx.gq (t := 106) rfl rfl rfl (by simp) rfl (Pu.qt (Pu.fieldAddr (off' := 7) Try.runUnderlying28 rfl Try.sizeOf3 rfl rfl rfl)) rfl ?_
          refine Mx.gq (t := 106) rfl rfl rfl (by simp) rfl (Qt.ld rfl (Cel.var 8 rfl) (o := 0) (off := 7) rfl (Cut.one Try.isAgg3 rfl)) rfl ?_
          refine Mx.gq (t := 106) rfl rfl rfl (by simp) rfl (Pu.qt (Pu.eql rfl rfl)) rfl ?_
          refine Mx.gq (t := 106) rfl rfl rfl (by simp) rfl (Pu.qt (Pu.bneq Try.underlying4 rfl rfl)) rfl ?_
          refine Mx.p rfl (Pu.pickF rfl (by simp) rfl) rfl ?_
          refine Mx.p rfl (Pu.move rfl) rfl ?_
          refine Mx.gq (t := 114) rfl rfl rfl (by decide) rfl (Pu.qt (Pu.move rfl)) rfl ?_
          refine Mx.gq (t := 114) rfl rfl rfl (by decide) rfl (Pu.qt (Pu.eql rfl rfl)) rfl ?_
          refine Mx.gq (t := 114) rfl rfl rfl (by decide) rfl (Pu.qt (Pu.move rfl)) rfl ?_
          refine Mx.gq (t := 117) rfl rfl rfl rfl rfl (Pu.qt (Pu.move rfl)) rfl ?_
          refine Mx.gq (t := 117) rfl rfl rfl rfl rfl (Pu.qt (Pu.neq rfl rfl)) rfl ?_
          refine Mx.gq (t := 114) rfl rfl rfl (by decide) rfl (Pu.qt (Pu.pickT rfl rfl rfl)) rfl ?_
          refine Mx.p rfl (Pu.pickF rfl (by decide) rfl) rfl ?_
          refine Mx.p rfl (Pu.move rfl) rfl ?_
          refine Mx.gq (t := 122) rfl rfl rfl rfl rfl (Pu.qt (Pu.move rfl)) rfl ?_
          refine Mx.gq (t := 122) rfl rfl rfl rfl rfl (Pu.qt (Pu.neq rfl rfl)) rfl ?_
          refine Mx.gq (t := 122) rfl rfl rfl rfl rfl (Pu.qt (Pu.move rfl)) rfl ?_
          refine Mx.gskip (t := 125) rfl rfl rfl (no_bool (by decide)) rfl rfl ?_
          refine Mx.gskip (t := 125) rfl rfl rfl (no_bool (by decide)) rfl rfl ?_
          refine Mx.gskip (t := 125) rfl rfl rfl (no_bool (by decide)) rfl rfl ?_
          refine Mx.gskip (t := 128) rfl rfl rfl (no_undef _) rfl rfl ?_
          refine Mx.gskip (t := 128) rfl rfl rfl (no_undef _) rfl rfl ?_
          refine Mx.gskip (t := 125) rfl rfl rfl (no_bool (by decide)) rfl rfl ?_
          refine Mx.gq (t := 122) rfl rfl rfl rfl rfl (Pu.qt (Pu.pickF rfl rfl rfl)) rfl ?_
          refine Mx.p rfl (Pu.pickF rfl rfl rfl) rfl ?_
          refine Mx.nil ?_
          refine J.condF rfl rfl ?_
          refine J.skip ?_
          refine J.seq ?_
          refine J.drawMix [(0, false), (1, false), (2, false), (3, false), (4, false), (5, false), (6, false), (7, false), (8, false), (9, false), (10, false), (11, false), (12, false), (13, false), (14, false), (15, false), (16, false), (17, false), (18, false), (19, false), (20, false), (21, false), (22, true), (23, false), (24, false)] [0, 1, 2, 3, 4, 5, 6, 8] [var g27 [.int .i64 x0, .int .i64 x1, .int .i64 x2, .int .i64 x3, .int .i64 x4, .int .i64 x5, .int .i64 x6, .int .i64 1, v12] 28, var g24 [.int .i64 x0, .int .i64 x1, .int .i64 x2, .int .i64 x3, .int .i64 x4, .int .i64 x5, .int .i64 x6, .int .i64 1, V22] 28, row V22 3 1 ((Jb.rising js).map encZ), var g21 [.int .i64 0, .int .i64 0, .int .i64 0, .int .i64 0, .int .i64 0, .int .i64 0, .int .i64 0, .int .i64 0, Value.slice none 0 0] 28, var g19 [.int .i64 0, .int .i64 0, .int .i64 0, .int .i64 0, .int .i64 0, .int .i64 0, .int .i64 0, .int .i64 0, Value.slice none 0 0] 28, row (Value.slice none 0 0) 3 1 (([] : List Int).map encZ), row v12 3 1 ((Jb.rising js).map encZ), var g1 [.int .i64 x0, .int .i64 x1, .int .i64 x2, .int .i64 x3, .int .i64 x4, .int .i64 x5, .int .i64 x6, .int .i64 1, v12] 28] Try.mixed (by kernel_rfl) (by decide) rfl ?_
          refine Mx.q rfl (Qt.ld rfl (Cel.var 4 rfl) (o := 0) (off := 0) rfl (Cut.agg [.int .i64 0, .int .i64 0, .int .i64 0, .int .i64 0, .int .i64 0, .int .i64 0, .int .i64 0, .int .i64 0, Value.slice none 0 0] Try.isAgg28 Try.sizeOf28 rfl rfl)) rfl ?_
          refine Mx.q rfl (Qt.ld rfl (Cel.var 1 rfl) (o := 0) (off := 0) rfl (Cut.agg [.int .i64 x0, .int .i64 x1, .int .i64 x2, .int .i64 x3, .int .i64 x4, .int .i64 x5, .int .i64 x6, .int .i64 1, V22] Try.isAgg28 Try.sizeOf28 rfl rfl)) rfl ?_
          refine Mx.call (vs := [.agg #[.int .i64 0, .int .i64 0, .int .i64 0, .int .i64 0, .int .i64 0, .int .i64 0, .int .i64 0, .int .i64 0, Value.slice none 0 0], .agg #[.int .i64 x0, .int .i64 x1, .int .i64 x2, .int .i64 x3, .int .i64 x4, .int .i64 x5, .int .i64 x6, .int .i64 1, V22]]) (caps := []) rfl (by exact Try.call37) rfl rfl (jb_Same 0 0 0 0 0 0 0 0 (Value.slice none 0 0) ([] : List Int) x0 x1 x2 x3 x4 x5 x6 1 V22 (Jb.rising js) (by first | omega | (simp; done) | (have h_ := Jb.rising_len (l := js); first | omega | (have h2_ := Jb.without_len (l := Jb.rising js) (c := ac); omega)) | (have h_ := Jb.rising_len (l := l); omega)) (by first | omega | (simp; done) | (have h_ := Jb.rising_len (l := js); first | omega | (have h2_ := Jb.without_len (l := Jb.rising js) (c := ac); omega)) | (have h_ := Jb.rising_len (l := l); omega))) (fun _ _ h => h) (RoOk.of 5 rfl row_rd [] (by decide) rfl (RoOk.of 2 rfl row_rd [] (by decide) rfl RoOk.nil)) rfl ?_
          refine Mx.q rfl (Qt.ld rfl (Cel.var 3 rfl) (o := 0) (off := 0) rfl (Cut.agg [.int .i64 0, .int .i64 0, .int .i64 0, .int .i64 0, .int .i64 0, .int .i64 0, .int .i64 0, .int .i64 0, Value.slice none 0 0] Try.isAgg28 Try.sizeOf28 rfl rfl)) rfl ?_
          refine Mx.q rfl (Qt.ld rfl (Cel.var 0 rfl) (o := 0) (off := 0) rfl (Cut.agg [.int .i64 x0, .int .i64 x1, .int .i64 x2, .int .i64 x3, .int .i64 x4, .int .i64 x5, .int .i64 x6, .int .i64 1, v12] Try.isAgg28 Try.sizeOf28 rfl rfl)) rfl ?_
          refine Mx.call (vs := [.agg #[.int .i64 0, .int .i64 0, .int .i64 0, .int .i64 0, .int .i64 0, .int .i64 0, .int .i64 0, .int .i64 0, Value.slice none 0 0], .agg #[.int .i64 x0, .int .i64 x1, .int .i64 x2, .int .i64 x3, .int .i64 x4, .int .i64 x5, .int .i64 x6, .int .i64 1, v12]]) (caps := []) rfl (by exact Try.call15) rfl rfl (r32_Same 0 0 0 0 0 0 0 0 (Value.slice none 0 0) ([] : List Int) x0 x1 x2 x3 x4 x5 x6 1 v12 (Jb.rising js) (by first | omega | (simp; done) | (have h_ := Jb.rising_len (l := js); first | omega | (have h2_ := Jb.without_len (l := Jb.rising js) (c := ac); omega)) | (have h_ := Jb.rising_len (l := l); omega)) (by first | omega | (simp; done) | (have h_ := Jb.rising_len (l := js); first | omega | (have h2_ := Jb.without_len (l := Jb.rising js) (c := ac); omega)) | (have h_ := Jb.rising_len (l := l); omega))) (fun _ _ h => h) (RoOk.of 5 rfl row_rd [] (by decide) rfl (RoOk.of 6 rfl row_rd [] (by decide) rfl RoOk.nil)) rfl ?_
          refine Mx.p rfl (Pu.beql Try.underlying4 rfl rfl) rfl ?_
          refine Mx.p rfl (Pu.move rfl) rfl ?_
          refine Mx.gq (t := 141) rfl rfl rfl (by simp) rfl (Qt.ld rfl (Cel.var 7 rfl) (o := 0) (off := 0) rfl (Cut.agg [.int .i64 x0, .int .i64 x1, .int .i64 x2, .int .i64 x3, .int .i64 x4, .int .i64 x5, .int .i64 x6, .int .i64 1, v12] Try.isAgg28 Try.sizeOf28 rfl rfl)) rfl ?_
          refine Mx.gq (t := 141) rfl rfl rfl (by simp) rfl (Qt.ld rfl (Cel.var 7 rfl) (o := 0) (off := 0) rfl (Cut.agg [.int .i64 x0, .int .i64 x1, .int .i64 x2, .int .i64 x3, .int .i64 x4, .int .i64 x5, .int .i64 x6, .int .i64 1, v12] Try.isAgg28 Try.sizeOf28 rfl rfl)) rfl ?_
          refine Mx.gcall (vs := [.agg #[.int .i64 x0, .int .i64 x1, .int .i64 x2, .int .i64 x3, .int .i64 x4, .int .i64 x5, .int .i64 x6, .int .i64 1, v12], .agg #[.int .i64 x0, .int .i64 x1, .int .i64 x2, .int .i64 x3, .int .i64 x4, .int .i64 x5, .int .i64 x6, .int .i64 1, v12]]) (caps := []) (t := 141) rfl rfl rfl (by simp) rfl (by exact Try.call37) rfl rfl (jb_Same x0 x1 x2 x3 x4 x5 x6 1 v12 (Jb.rising js) x0 x1 x2 x3 x4 x5 x6 1 v12 (Jb.rising js) (by first | omega | (simp; done) | (have h_ := Jb.rising_len (l := js); first | omega | (have h2_ := Jb.without_len (l := Jb.rising js) (c := ac); omega)) | (have h_ := Jb.rising_len (l := l); omega)) (by first | omega | (simp; done) | (have h_ := Jb.rising_len (l := js); first | omega | (have h2_ := Jb.without_len (l := Jb.rising js) (c := ac); omega)) | (have h_ := Jb.rising_len (l := l); omega))) (fun _ _ h => h) (RoOk.of 6 rfl row_rd [] (by decide) rfl (RoOk.of 6 rfl row_rd [] (by decide) rfl RoOk.nil)) rfl ?_
          refine Mx.p rfl (Pu.pickT rfl (by simp) rfl) rfl ?_
          refine Mx.p rfl (Pu.move rfl) rfl ?_
          refine Mx.gq (t := 146) rfl rfl rfl (by simp) rfl (Pu.qt (Pu.fieldAddr (off' := 0) Try.runUnderlying28 rfl Try.sizeOf23 rfl rfl rfl)) rfl ?_
          refine Mx.gq (t := 146) rfl rfl rfl (by simp) rfl (Qt.ld rfl (Cel.var 7 rfl) (o := 0) (off := 0) rfl (Cut.agg [.int .i64 x0, .int .i64 x1, .int .i64 x2, .int .i64 x3, .int .i64 x4, .int .i64 x5, .int .i64 x6] Try.isAgg23 Try.sizeOf23 rfl rfl)) rfl ?_
          refine Mx.gcall (vs := [.agg #[.int .i64 x0, .int .i64 x1, .int .i64 x2, .int .i64 x3, .int .i64 x4, .int .i64 x5, .int .i64 x6]]) (caps := []) (t := 146) rfl rfl rfl (by simp) rfl (by exact Try.call13) rfl rfl (jb_New x0 x1 x2 x3 x4 x5 x6) (fun _ _ h => h) RoOk.nil rfl ?_
          refine Mx.gq (t := 146) rfl rfl rfl (by simp) rfl (Pu.qt (Pu.fieldAddr (off' := 0) Try.runUnderlying28 rfl Try.sizeOf23 rfl rfl rfl)) rfl ?_
          refine Mx.gq (t := 146) rfl rfl rfl (by simp) rfl (Qt.ld rfl (Cel.var 7 rfl) (o := 0) (off := 0) rfl (Cut.agg [.int .i64 x0, .int .i64 x1, .int .i64 x2, .int .i64 x3, .int .i64 x4, .int .i64 x5, .int .i64 x6] Try.isAgg23 Try.sizeOf23 rfl rfl)) rfl ?_
          refine Mx.gq (t := 146) rfl rfl rfl (by simp) rfl (Pu.qt (Pu.build [(0, .agg #[.int .i64 x0, .int .i64 x1, .int .i64 x2, .int .i64 x3, .int .i64 x4, .int .i64 x5, .int .i64 x6]), (1, .int .i64 1)] [.int .i64 x0, .int .i64 x1, .int .i64 x2, .int .i64 x3, .int .i64 x4, .int .i64 x5, .int .i64 x6, .int .i64 1, Value.slice none 0 0] #[(0, 7), (7, 1), (8, 1)] Try.runUnderlying28 Try.zeroValue28 (places28 Try.underlying28) rfl (by kernel_rfl))) rfl ?_
          refine Mx.gcall (vs := [.agg #[.int .i64 x0, .int .i64 x1, .int .i64 x2, .int .i64 x3, .int .i64 x4, .int .i64 x5, .int .i64 x6, .int .i64 1, Value.slice none 0 0], .agg #[.int .i64 x0, .int .i64 x1, .int .i64 x2, .int .i64 x3, .int .i64 x4, .int .i64 x5, .int .i64 x6, .int .i64 1, Value.slice none 0 0]]) (caps := []) (t := 146) rfl rfl rfl (by simp) rfl (by exact Try.call15) rfl rfl (r32_Same x0 x1 x2 x3 x4 x5 x6 1 (Value.slice none 0 0) ([] : List Int) x0 x1 x2 x3 x4 x5 x6 1 (Value.slice none 0 0) ([] : List Int) (by first | omega | (simp; done) | (have h_ := Jb.rising_len (l := js); first | omega | (have h2_ := Jb.without_len (l := Jb.rising js) (c := ac); omega)) | (have h_ := Jb.rising_len (l := l); omega)) (by first | omega | (simp; done) | (have h_ := Jb.rising_len (l := js); first | omega | (have h2_ := Jb.without_len (l := Jb.rising js) (c := ac); omega)) | (have h_ := Jb.rising_len (l := l); omega))) (fun _ _ h => h) (RoOk.of 5 rfl row_rd [] (by decide) rfl (RoOk.of 5 rfl row_rd [] (by decide) rfl RoOk.nil)) rfl ?_
          refine Mx.p rfl (Pu.pickT rfl (by simp) rfl) rfl ?_
          refine Mx.p rfl (Pu.move rfl) rfl ?_
          refine Mx.gl (t := 155) rfl rfl rfl (by simp) rfl (Lo.call [] (by exact Try.call11) rfl law32_awake [] [0, 1, 2, 3, 4, 5, 6, 7, 8] (by decide) rfl [var g27 [.int .i64 x0, .int .i64 x1, .int .i64 x2, .int .i64 x3, .int .i64 x4, .int .i64 x5, .int .i64 x6, .int .i64 1, v12] 28, var g24 [.int .i64 x0, .int .i64 x1, .int .i64 x2, .int .i64 x3, .int .i64 x4, .int .i64 x5, .int .i64 x6, .int .i64 1, V22] 28, row V22 3 1 ((Jb.rising js).map encZ), var g21 [.int .i64 0, .int .i64 0, .int .i64 0, .int .i64 0, .int .i64 0, .int .i64 0, .int .i64 0, .int .i64 0, Value.slice none 0 0] 28, var g19 [.int .i64 0, .int .i64 0, .int .i64 0, .int .i64 0, .int .i64 0, .int .i64 0, .int .i64 0, .int .i64 0, Value.slice none 0 0] 28, row (Value.slice none 0 0) 3 1 (([] : List Int).map encZ), row v12 3 1 ((Jb.rising js).map encZ), var g3 [.int .i64 ac, .int .i64 cd] 35, var g1 [.int .i64 x0, .int .i64 x1, .int .i64 x2, .int .i64 x3, .int .i64 x4, .int .i64 x5, .int .i64 x6, .int .i64 1, v12] 28] rfl RoOk.nil) rfl ?_
          rintro _ _ ⟨_, ⟨rfl, rfl⟩, rfl⟩
          refine MxK.go [0, 1, 2, 3, 4, 5, 6, 8] [0, 1, 2, 3, 4, 5, 6, 7] [var g27 [.int .i64 x0, .int .i64 x1, .int .i64 x2, .int .i64 x3, .int .i64 x4, .int .i64 x5, .int .i64 x6, .int .i64 1, v12] 28, var g24 [.int .i64 x0, .int .i64 x1, .int .i64 x2, .int .i64 x3, .int .i64 x4, .int .i64 x5, .int .i64 x6, .int .i64 1, V22] 28, row V22 3 1 ((Jb.rising js).map encZ), var g21 [.int .i64 0, .int .i64 0, .int .i64 0, .int .i64 0, .int .i64 0, .int .i64 0, .int .i64 0, .int .i64 0, Value.slice none 0 0] 28, var g19 [.int .i64 0, .int .i64 0, .int .i64 0, .int .i64 0, .int .i64 0, .int .i64 0, .int .i64 0, .int .i64 0, Value.slice none 0 0] 28, row (Value.slice none 0 0) 3 1 (([] : List Int).map encZ), row v12 3 1 ((Jb.rising js).map encZ), var g1 [.int .i64 x0, .int .i64 x1, .int .i64 x2, .int .i64 x3, .int .i64 x4, .int .i64 x5, .int .i64 x6, .int .i64 1, v12] 28] (by decide) rfl (by decide) rfl ?_
          refine Mx.p rfl (Pu.pickT rfl (by simp) rfl) rfl ?_
          refine Mx.p rfl (Pu.assign rfl) rfl ?_
          refine Mx.nil ?_
          exact J.ret (Fin.ret (rs := [.tmp 6]) rfl [_] ⟨rfl, trivial⟩ [] (by decide) [] rfl ⟨rfl, rfl⟩)
        ·
          have p30 := of_decide_eq_false h16
          refine J.nilRow 3 1 ?_
          show J _ _ _ [row (Value.slice none 0 0) 3 1 (([] : List Int).map encZ), row v12 3 1 ((Jb.rising js).map encZ), var g3 [.int .i64 ac, .int .i64 cd] 35, var g1 [.int .i64 x0, .int .i64 x1, .int .i64 x2, .int .i64 x3, .int .i64 x4, .int .i64 x5, .int .i64 x6, .int .i64 1, v12] 28]
          refine J.region ?_
          refine O.q (Qt.ld rfl (Cel.var 3 rfl) (o := 0) (off := 0) rfl (Cut.agg [.int .i64 x0, .int .i64 x1, .int .i64 x2, .int .i64 x3, .int .i64 x4, .int .i64 x5, .int .i64 x6, .int .i64 1, v12] Try.isAgg28 Try.sizeOf28 rfl rfl)) rfl ?_
          refine O.p (Pu.move rfl) rfl ?_
          refine O.l (Lo.call [.agg #[.int .i64 x0, .int .i64 x1, .int .i64 x2, .int .i64 x3, .int .i64 x4, .int .i64 x5, .int .i64 x6, .int .i64 1, v12], lv] (by exact Try.call12) rfl (jb_Done x0 x1 x2 x3 x4 x5 x6 v12 lv l hV13 (by first | omega | (simp; done) | (have h_ := Jb.rising_len (l := js); first | omega | (have h2_ := Jb.without_len (l := Jb.rising js) (c := ac); omega)) | (have h_ := Jb.rising_len (l := l); omega)) (of_decide_eq_false h16)) [] [0, 1, 2, 3] (by decide) rfl [row (Value.slice none 0 0) 3 1 (([] : List Int).map encZ), row v12 3 1 ((Jb.rising js).map encZ), var g3 [.int .i64 ac, .int .i64 cd] 35, var g1 [.int .i64 x0, .int .i64 x1, .int .i64 x2, .int .i64 x3, .int .i64 x4, .int .i64 x5, .int .i64 x6, .int .i64 1, v12] 28] rfl (RoOk.ro 1 rfl [] rfl RoOk.nil)) rfl ?_
          rintro _ _ ⟨_, ⟨V31, rfl, rfl⟩, rfl⟩
          refine O.p (Pu.move rfl) rfl ?_
          refine O.p (Pu.extract rfl rfl) rfl ?_
          refine O.p (Pu.extract rfl rfl) rfl ?_
          refine O.p (Pu.extract rfl rfl) rfl ?_
          refine O.l (Lo.alloc [.int .i64 0, .int .i64 0, .int .i64 0, .int .i64 0, .int .i64 0, .int .i64 0, .int .i64 0, .int .i64 0, Value.slice none 0 0] (by exact Try.zeroValue28) rfl) rfl ?_
          rintro _ _ ⟨g33, rfl, rfl⟩
          refine O.one (Src.row 1 rfl) (fun hV34 => ?_)
          refine O.l0 (Lo.store 0 (vs := [.int .i64 x0, .int .i64 x1, .int .i64 x2, .int .i64 x3, .int .i64 x4, .int .i64 x5, .int .i64 x6, .int .i64 2, V31]) [.int .i64 x0, .int .i64 x1, .int .i64 x2, .int .i64 x3, .int .i64 x4, .int .i64 x5, .int .i64 x6, .int .i64 2, V31] rfl rfl rfl (by exact Try.sizeOf28) rfl rfl (by simp only [List.all_cons, List.all_nil, Bool.and_true, hV34] <;> rfl) rfl rfl) ?_
          rintro _ _ rfl
          refine O.p (Pu.assign rfl) rfl ?_
          refine O.p (Pu.assign rfl) rfl ?_
          refine O.nil ?_
          refine J.seq ?_
          refine J.region ?_
          refine O.q (Qt.ld rfl (Cel.var 5 rfl) (o := 0) (off := 0) rfl (Cut.agg [.int .i64 x0, .int .i64 x1, .int .i64 x2, .int .i64 x3, .int .i64 x4, .int .i64 x5, .int .i64 x6, .int .i64 1, v12] Try.isAgg28 Try.sizeOf28 rfl rfl)) rfl ?_
          refine O.p (Pu.move rfl) rfl ?_
          refine O.l (Lo.call [.agg #[.int .i64 x0, .int .i64 x1, .int .i64 x2, .int .i64 x3, .int .i64 x4, .int .i64 x5, .int .i64 x6, .int .i64 1, v12], lv] (by exact Try.call32) rfl (r32_Done x0 x1 x2 x3 x4 x5 x6 v12 lv l hV13 (by first | omega | (simp; done) | (have h_ := Jb.rising_len (l := js); first | omega | (have h2_ := Jb.without_len (l := Jb.rising js) (c := ac); omega)) | (have h_ := Jb.rising_len (l := l); omega)) (of_decide_eq_false h16)) [] [0, 1, 2, 3, 4, 5] (by decide) rfl [var g33 [.int .i64 x0, .int .i64 x1, .int .i64 x2, .int .i64 x3, .int .i64 x4, .int .i64 x5, .int .i64 x6, .int .i64 2, V31] 28, row V31 3 1 ((Jb.rising l).map encZ), row (Value.slice none 0 0) 3 1 (([] : List Int).map encZ), row v12 3 1 ((Jb.rising js).map encZ), var g3 [.int .i64 ac, .int .i64 cd] 35, var g1 [.int .i64 x0, .int .i64 x1, .int .i64 x2, .int .i64 x3, .int .i64 x4, .int .i64 x5, .int .i64 x6, .int .i64 1, v12] 28] rfl (RoOk.ro 1 rfl [] rfl RoOk.nil)) rfl ?_
          rintro _ _ ⟨_, ⟨V35, rfl, rfl⟩, rfl⟩
          refine O.p (Pu.move rfl) rfl ?_
          refine O.p (Pu.extract rfl rfl) rfl ?_
          refine O.p (Pu.extract rfl rfl) rfl ?_
          refine O.p (Pu.extract rfl rfl) rfl ?_
          refine O.l (Lo.alloc [.int .i64 0, .int .i64 0, .int .i64 0, .int .i64 0, .int .i64 0, .int .i64 0, .int .i64 0, .int .i64 0, Value.slice none 0 0] (by exact Try.zeroValue28) rfl) rfl ?_
          rintro _ _ ⟨g37, rfl, rfl⟩
          refine O.one (Src.row 1 rfl) (fun hV38 => ?_)
          refine O.l0 (Lo.store 0 (vs := [.int .i64 x0, .int .i64 x1, .int .i64 x2, .int .i64 x3, .int .i64 x4, .int .i64 x5, .int .i64 x6, .int .i64 2, V35]) [.int .i64 x0, .int .i64 x1, .int .i64 x2, .int .i64 x3, .int .i64 x4, .int .i64 x5, .int .i64 x6, .int .i64 2, V35] rfl rfl rfl (by exact Try.sizeOf28) rfl rfl (by simp only [List.all_cons, List.all_nil, Bool.and_true, hV38] <;> rfl) rfl rfl) ?_
          rintro _ _ rfl
          refine O.p (Pu.assign rfl) rfl ?_
          refine O.p (Pu.assign rfl) rfl ?_
          refine O.nil ?_
          refine J.seq ?_
          refine J.region ?_
          refine O.q (Qt.ld rfl (Cel.var 7 rfl) (o := 0) (off := 0) rfl (Cut.agg [.int .i64 x0, .int .i64 x1, .int .i64 x2, .int .i64 x3, .int .i64 x4, .int .i64 x5, .int .i64 x6, .int .i64 1, v12] Try.isAgg28 Try.sizeOf28 rfl rfl)) rfl ?_
          refine O.p (Pu.fieldAddr (off' := 0) Try.runUnderlying35 rfl Try.sizeOf3 rfl rfl rfl) rfl ?_
          refine O.q (Qt.ld rfl (Cel.var 6 rfl) (o := 0) (off := 0) rfl (Cut.one Try.isAgg3 rfl)) rfl ?_
          refine O.p (Pu.fieldAddr (off' := 1) Try.runUnderlying35 rfl Try.sizeOf3 rfl rfl rfl) rfl ?_
          refine O.q (Qt.ld rfl (Cel.var 6 rfl) (o := 0) (off := 1) rfl (Cut.one Try.isAgg3 rfl)) rfl ?_
          refine O.l (Lo.call [.agg #[.int .i64 x0, .int .i64 x1, .int .i64 x2, .int .i64 x3, .int .i64 x4, .int .i64 x5, .int .i64 x6, .int .i64 1, v12], .int .i64 ac, .int .i64 cd] (by exact Try.call14) rfl (jb_HeardNo x0 x1 x2 x3 x4 x5 x6 1 v12 (Jb.rising js) ac cd (by first | omega | (simp; done) | (have h_ := Jb.rising_len (l := js); first | omega | (have h2_ := Jb.without_len (l := Jb.rising js) (c := ac); omega)) | (have h_ := Jb.rising_len (l := l); omega)) (.inl (by decide))) [] [0, 1, 2, 3, 4, 5, 6, 7] (by decide) rfl [var g37 [.int .i64 x0, .int .i64 x1, .int .i64 x2, .int .i64 x3, .int .i64 x4, .int .i64 x5, .int .i64 x6, .int .i64 2, V35] 28, row V35 3 1 ((Jb.rising l).map encZ), var g33 [.int .i64 x0, .int .i64 x1, .int .i64 x2, .int .i64 x3, .int .i64 x4, .int .i64 x5, .int .i64 x6, .int .i64 2, V31] 28, row V31 3 1 ((Jb.rising l).map encZ), row (Value.slice none 0 0) 3 1 (([] : List Int).map encZ), row v12 3 1 ((Jb.rising js).map encZ), var g3 [.int .i64 ac, .int .i64 cd] 35, var g1 [.int .i64 x0, .int .i64 x1, .int .i64 x2, .int .i64 x3, .int .i64 x4, .int .i64 x5, .int .i64 x6, .int .i64 1, v12] 28] rfl (RoOk.of 5 rfl row_rd [] (by decide) rfl RoOk.nil)) rfl ?_
          rintro _ _ ⟨_, ⟨V39, rfl, rfl⟩, rfl⟩
          refine O.p (Pu.move rfl) rfl ?_
          refine O.p (Pu.extract rfl rfl) rfl ?_
          refine O.p (Pu.extract rfl rfl) rfl ?_
          refine O.l (Lo.alloc [.int .i64 0, .int .i64 0, .int .i64 0, .int .i64 0, .int .i64 0, .int .i64 0, .int .i64 0, .int .i64 0, Value.slice none 0 0] (by exact Try.zeroValue28) rfl) rfl ?_
          rintro _ _ ⟨g41, rfl, rfl⟩
          refine O.one (Src.row 1 rfl) (fun hV42 => ?_)
          refine O.l0 (Lo.store 0 (vs := [.int .i64 x0, .int .i64 x1, .int .i64 x2, .int .i64 x3, .int .i64 x4, .int .i64 x5, .int .i64 x6, .int .i64 1, V39]) [.int .i64 x0, .int .i64 x1, .int .i64 x2, .int .i64 x3, .int .i64 x4, .int .i64 x5, .int .i64 x6, .int .i64 1, V39] rfl rfl rfl (by exact Try.sizeOf28) rfl rfl (by simp only [List.all_cons, List.all_nil, Bool.and_true, hV42] <;> rfl) rfl rfl) ?_
          rintro _ _ rfl
          refine O.p (Pu.assign rfl) rfl ?_
          refine O.nil ?_
          refine J.seq ?_
          refine J.region ?_
          refine O.q (Qt.ld rfl (Cel.var 9 rfl) (o := 0) (off := 0) rfl (Cut.agg [.int .i64 x0, .int .i64 x1, .int .i64 x2, .int .i64 x3, .int .i64 x4, .int .i64 x5, .int .i64 x6, .int .i64 1, v12] Try.isAgg28 Try.sizeOf28 rfl rfl)) rfl ?_
          refine O.p (Pu.fieldAddr (off' := 0) Try.runUnderlying35 rfl Try.sizeOf3 rfl rfl rfl) rfl ?_
          refine O.q (Qt.ld rfl (Cel.var 8 rfl) (o := 0) (off := 0) rfl (Cut.one Try.isAgg3 rfl)) rfl ?_
          refine O.p (Pu.fieldAddr (off' := 1) Try.runUnderlying35 rfl Try.sizeOf3 rfl rfl rfl) rfl ?_
          refine O.q (Qt.ld rfl (Cel.var 8 rfl) (o := 0) (off := 1) rfl (Cut.one Try.isAgg3 rfl)) rfl ?_
          refine O.l (Lo.call [.agg #[.int .i64 x0, .int .i64 x1, .int .i64 x2, .int .i64 x3, .int .i64 x4, .int .i64 x5, .int .i64 x6, .int .i64 1, v12], .int .i64 ac, .int .i64 cd] (by exact Try.call33) rfl (r32_HeardNo x0 x1 x2 x3 x4 x5 x6 1 v12 (Jb.rising js) ac cd (by first | omega | (simp; done) | (have h_ := Jb.rising_len (l := js); first | omega | (have h2_ := Jb.without_len (l := Jb.rising js) (c := ac); omega)) | (have h_ := Jb.rising_len (l := l); omega)) (.inl (by decide))) [] [0, 1, 2, 3, 4, 5, 6, 7, 8, 9] (by decide) rfl [var g41 [.int .i64 x0, .int .i64 x1, .int .i64 x2, .int .i64 x3, .int .i64 x4, .int .i64 x5, .int .i64 x6, .int .i64 1, V39] 28, row V39 3 1 ((Jb.rising js).map encZ), var g37 [.int .i64 x0, .int .i64 x1, .int .i64 x2, .int .i64 x3, .int .i64 x4, .int .i64 x5, .int .i64 x6, .int .i64 2, V35] 28, row V35 3 1 ((Jb.rising l).map encZ), var g33 [.int .i64 x0, .int .i64 x1, .int .i64 x2, .int .i64 x3, .int .i64 x4, .int .i64 x5, .int .i64 x6, .int .i64 2, V31] 28, row V31 3 1 ((Jb.rising l).map encZ), row (Value.slice none 0 0) 3 1 (([] : List Int).map encZ), row v12 3 1 ((Jb.rising js).map encZ), var g3 [.int .i64 ac, .int .i64 cd] 35, var g1 [.int .i64 x0, .int .i64 x1, .int .i64 x2, .int .i64 x3, .int .i64 x4, .int .i64 x5, .int .i64 x6, .int .i64 1, v12] 28] rfl (RoOk.of 7 rfl row_rd [] (by decide) rfl RoOk.nil)) rfl ?_
          rintro _ _ ⟨_, ⟨rfl, rfl⟩, rfl⟩
          refine O.p (Pu.move rfl) rfl ?_
          refine O.p (Pu.extract rfl rfl) rfl ?_
          refine O.p (Pu.extract rfl rfl) rfl ?_
          refine O.l (Lo.alloc [.int .i64 0, .int .i64 0, .int .i64 0, .int .i64 0, .int .i64 0, .int .i64 0, .int .i64 0, .int .i64 0, Value.slice none 0 0] (by exact Try.zeroValue28) rfl) rfl ?_
          rintro _ _ ⟨g44, rfl, rfl⟩
          refine O.l0 (Lo.store 0 (vs := [.int .i64 x0, .int .i64 x1, .int .i64 x2, .int .i64 x3, .int .i64 x4, .int .i64 x5, .int .i64 x6, .int .i64 1, v12]) [.int .i64 x0, .int .i64 x1, .int .i64 x2, .int .i64 x3, .int .i64 x4, .int .i64 x5, .int .i64 x6, .int .i64 1, v12] rfl rfl rfl (by exact Try.sizeOf28) rfl rfl (by simp only [List.all_cons, List.all_nil, Bool.and_true, hV13] <;> rfl) rfl rfl) ?_
          rintro _ _ rfl
          refine O.p (Pu.assign rfl) rfl ?_
          refine O.nil ?_
          refine J.seq ?_
          refine J.region ?_
          refine O.q (Qt.ld rfl (Cel.var 10 rfl) (o := 0) (off := 0) rfl (Cut.agg [.int .i64 x0, .int .i64 x1, .int .i64 x2, .int .i64 x3, .int .i64 x4, .int .i64 x5, .int .i64 x6, .int .i64 1, v12] Try.isAgg28 Try.sizeOf28 rfl rfl)) rfl ?_
          refine O.l (Lo.call [.agg #[.int .i64 x0, .int .i64 x1, .int .i64 x2, .int .i64 x3, .int .i64 x4, .int .i64 x5, .int .i64 x6, .int .i64 1, v12]] (by exact Try.call34) rfl (jb_Broken x0 x1 x2 x3 x4 x5 x6 v12 hV13) [] [0, 1, 2, 3, 4, 5, 6, 7, 8, 9, 10] (by decide) rfl [var g44 [.int .i64 x0, .int .i64 x1, .int .i64 x2, .int .i64 x3, .int .i64 x4, .int .i64 x5, .int .i64 x6, .int .i64 1, v12] 28, var g41 [.int .i64 x0, .int .i64 x1, .int .i64 x2, .int .i64 x3, .int .i64 x4, .int .i64 x5, .int .i64 x6, .int .i64 1, V39] 28, row V39 3 1 ((Jb.rising js).map encZ), var g37 [.int .i64 x0, .int .i64 x1, .int .i64 x2, .int .i64 x3, .int .i64 x4, .int .i64 x5, .int .i64 x6, .int .i64 2, V35] 28, row V35 3 1 ((Jb.rising l).map encZ), var g33 [.int .i64 x0, .int .i64 x1, .int .i64 x2, .int .i64 x3, .int .i64 x4, .int .i64 x5, .int .i64 x6, .int .i64 2, V31] 28, row V31 3 1 ((Jb.rising l).map encZ), row (Value.slice none 0 0) 3 1 (([] : List Int).map encZ), row v12 3 1 ((Jb.rising js).map encZ), var g3 [.int .i64 ac, .int .i64 cd] 35, var g1 [.int .i64 x0, .int .i64 x1, .int .i64 x2, .int .i64 x3, .int .i64 x4, .int .i64 x5, .int .i64 x6, .int .i64 1, v12] 28] rfl RoOk.nil) rfl ?_
          rintro _ _ ⟨_, ⟨rfl, rfl⟩, rfl⟩
          refine O.p (Pu.move rfl) rfl ?_
          refine O.p (Pu.extract rfl rfl) rfl ?_
          refine O.p (Pu.extract rfl rfl) rfl ?_
          refine O.p (Pu.assign rfl) rfl ?_
          refine O.p (Pu.assign rfl) rfl ?_
          refine O.nil ?_
          refine J.seq ?_
          refine J.seq ?_
          refine J.drawMix [(0, false), (1, false), (2, false), (3, false), (4, false), (5, false), (6, false), (7, false), (8, false), (9, false), (10, false), (11, false), (12, false), (13, false), (14, false), (15, false), (16, false), (17, false), (18, false), (19, false), (20, false), (21, false), (22, false), (23, false), (24, false), (25, false), (26, false), (27, false), (28, false), (29, false), (30, false), (31, false), (32, false), (33, false), (34, false), (35, false), (36, false), (37, false), (38, false), (39, false), (40, false), (41, false), (42, false), (43, false), (44, false), (45, false), (46, false), (47, false), (48, false), (49, false), (50, false), (51, false), (52, false), (53, false), (54, false), (55, false), (56, false), (57, false), (58, false), (59, false), (60, false), (61, false), (62, false), (63, false)] [0, 1, 2, 3, 4, 5, 6, 8, 9, 10] [var g44 [.int .i64 x0, .int .i64 x1, .int .i64 x2, .int .i64 x3, .int .i64 x4, .int .i64 x5, .int .i64 x6, .int .i64 1, v12] 28, var g41 [.int .i64 x0, .int .i64 x1, .int .i64 x2, .int .i64 x3, .int .i64 x4, .int .i64 x5, .int .i64 x6, .int .i64 1, V39] 28, row V39 3 1 ((Jb.rising js).map encZ), var g37 [.int .i64 x0, .int .i64 x1, .int .i64 x2, .int .i64 x3, .int .i64 x4, .int .i64 x5, .int .i64 x6, .int .i64 2, V35] 28, row V35 3 1 ((Jb.rising l).map encZ), var g33 [.int .i64 x0, .int .i64 x1, .int .i64 x2, .int .i64 x3, .int .i64 x4, .int .i64 x5, .int .i64 x6, .int .i64 2, V31] 28, row V31 3 1 ((Jb.rising l).map encZ), row v12 3 1 ((Jb.rising js).map encZ), var g3 [.int .i64 ac, .int .i64 cd] 35, var g1 [.int .i64 x0, .int .i64 x1, .int .i64 x2, .int .i64 x3, .int .i64 x4, .int .i64 x5, .int .i64 x6, .int .i64 1, v12] 28] Try.mixed (by kernel_rfl) (by decide) rfl ?_
          refine Mx.q rfl (Qt.ld rfl (Cel.var 5 rfl) (o := 0) (off := 0) rfl (Cut.agg [.int .i64 x0, .int .i64 x1, .int .i64 x2, .int .i64 x3, .int .i64 x4, .int .i64 x5, .int .i64 x6, .int .i64 2, V31] Try.isAgg28 Try.sizeOf28 rfl rfl)) rfl ?_
          refine Mx.q rfl (Qt.ld rfl (Cel.var 3 rfl) (o := 0) (off := 0) rfl (Cut.agg [.int .i64 x0, .int .i64 x1, .int .i64 x2, .int .i64 x3, .int .i64 x4, .int .i64 x5, .int .i64 x6, .int .i64 2, V35] Try.isAgg28 Try.sizeOf28 rfl rfl)) rfl ?_
          refine Mx.call (vs := [.agg #[.int .i64 x0, .int .i64 x1, .int .i64 x2, .int .i64 x3, .int .i64 x4, .int .i64 x5, .int .i64 x6, .int .i64 2, V31], .agg #[.int .i64 x0, .int .i64 x1, .int .i64 x2, .int .i64 x3, .int .i64 x4, .int .i64 x5, .int .i64 x6, .int .i64 2, V35]]) (caps := []) rfl (by exact Try.call15) rfl rfl (r32_Same x0 x1 x2 x3 x4 x5 x6 2 V31 (Jb.rising l) x0 x1 x2 x3 x4 x5 x6 2 V35 (Jb.rising l) (by first | omega | (simp; done) | (have h_ := Jb.rising_len (l := js); first | omega | (have h2_ := Jb.without_len (l := Jb.rising js) (c := ac); omega)) | (have h_ := Jb.rising_len (l := l); omega)) (by first | omega | (simp; done) | (have h_ := Jb.rising_len (l := js); first | omega | (have h2_ := Jb.without_len (l := Jb.rising js) (c := ac); omega)) | (have h_ := Jb.rising_len (l := l); omega))) (fun _ _ h => h) (RoOk.of 6 rfl row_rd [] (by decide) rfl (RoOk.of 4 rfl row_rd [] (by decide) rfl RoOk.nil)) rfl ?_
          refine Mx.p rfl (Pu.not rfl) rfl ?_
          refine Mx.p rfl (Pu.move rfl) rfl ?_
          refine Mx.gq (t := 74) rfl rfl rfl (not_of_true (by simp)) rfl (Pu.qt (Pu.move rfl)) rfl ?_
          refine Mx.gq (t := 74) rfl rfl rfl (not_of_true (by simp)) rfl (Pu.qt (Pu.move rfl)) rfl ?_
          refine Mx.gq (t := 74) rfl rfl rfl (not_of_true (by simp)) rfl (Pu.qt (Pu.neq rfl rfl)) rfl ?_
          refine Mx.p rfl (Pu.pickF rfl (not_of_true (by simp)) rfl) rfl ?_
          refine Mx.p rfl (Pu.move rfl) rfl ?_
          refine Mx.gq (t := 79) rfl rfl rfl rfl rfl (Pu.qt (Pu.move rfl)) rfl ?_
          refine Mx.gq (t := 79) rfl rfl rfl rfl rfl (Pu.qt (Pu.move rfl)) rfl ?_
          refine Mx.gq (t := 79) rfl rfl rfl rfl rfl (Pu.qt (Pu.neq rfl rfl)) rfl ?_
          refine Mx.p rfl (Pu.pickF rfl rfl rfl) rfl ?_
          refine Mx.p rfl (Pu.move rfl) rfl ?_
          refine Mx.gq (t := 84) rfl rfl rfl rfl rfl (Qt.ld rfl (Cel.var 1 rfl) (o := 0) (off := 0) rfl (Cut.agg [.int .i64 x0, .int .i64 x1, .int .i64 x2, .int .i64 x3, .int .i64 x4, .int .i64 x5, .int .i64 x6, .int .i64 1, V39] Try.isAgg28 Try.sizeOf28 rfl rfl)) rfl ?_
          refine Mx.gq (t := 84) rfl rfl rfl rfl rfl (Qt.ld rfl (Cel.var 0 rfl) (o := 0) (off := 0) rfl (Cut.agg [.int .i64 x0, .int .i64 x1, .int .i64 x2, .int .i64 x3, .int .i64 x4, .int .i64 x5, .int .i64 x6, .int .i64 1, v12] Try.isAgg28 Try.sizeOf28 rfl rfl)) rfl ?_
          refine Mx.gcall (vs := [.agg #[.int .i64 x0, .int .i64 x1, .int .i64 x2, .int .i64 x3, .int .i64 x4, .int .i64 x5, .int .i64 x6, .int .i64 1, V39], .agg #[.int .i64 x0, .int .i64 x1, .int .i64 x2, .int .i64 x3, .int .i64 x4, .int .i64 x5, .int .i64 x6, .int .i64 1, v12]]) (caps := []) (t := 84) rfl rfl rfl rfl rfl (by exact Try.call15) rfl rfl (r32_Same x0 x1 x2 x3 x4 x5 x6 1 V39 (Jb.rising js) x0 x1 x2 x3 x4 x5 x6 1 v12 (Jb.rising js) (by first | omega | (simp; done) | (have h_ := Jb.rising_len (l := js); first | omega | (have h2_ := Jb.without_len (l := Jb.rising js) (c := ac); omega)) | (have h_ := Jb.rising_len (l := l); omega)) (by first | omega | (simp; done) | (have h_ := Jb.rising_len (l := js); first | omega | (have h2_ := Jb.without_len (l := Jb.rising js) (c := ac); omega)) | (have h_ := Jb.rising_len (l := l); omega))) (fun _ _ h => h) (RoOk.of 2 rfl row_rd [] (by decide) rfl (RoOk.of 7 rfl row_rd [] (by decide) rfl RoOk.nil)) rfl ?_
          refine Mx.gq (t := 84) rfl rfl rfl rfl rfl (Pu.qt (Pu.not rfl)) rfl ?_
          refine Mx.p rfl (Pu.pickF rfl rfl rfl) rfl ?_
          refine Mx.p rfl (Pu.move rfl) rfl ?_
          refine Mx.gq (t := 90) rfl rfl rfl (not_of_true (by simp)) rfl (Pu.qt (Pu.move rfl)) rfl ?_
          refine Mx.gq (t := 90) rfl rfl rfl (not_of_true (by simp)) rfl (Pu.qt (Pu.move rfl)) rfl ?_
          refine Mx.gq (t := 90) rfl rfl rfl (not_of_true (by simp)) rfl (Pu.qt (Pu.neq rfl rfl)) rfl ?_
          refine Mx.p rfl (Pu.pickF rfl (not_of_true (by simp)) rfl) rfl ?_
          refine Mx.p rfl (Pu.move rfl) rfl ?_
          refine Mx.gq (t := 95) rfl rfl rfl rfl rfl (Qt.ld rfl (Cel.var 9 rfl) (o := 0) (off := 0) rfl (Cut.agg [.int .i64 x0, .int .i64 x1, .int .i64 x2, .int .i64 x3, .int .i64 x4, .int .i64 x5, .int .i64 x6, .int .i64 1, v12] Try.isAgg28 Try.sizeOf28 rfl rfl)) rfl ?_
          refine Mx.gq (t := 95) rfl rfl rfl rfl rfl (Pu.qt (Pu.fieldAddr (off' := 1) Try.runUnderlying35 rfl Try.sizeOf3 rfl rfl rfl)) rfl ?_
          refine Mx.gq (t := 95) rfl rfl rfl rfl rfl (Qt.ld rfl (Cel.var 8 rfl) (o := 0) (off := 1) rfl (Cut.one Try.isAgg3 rfl)) rfl ?_
          refine Mx.gcall (vs := [.agg #[.int .i64 x0, .int .i64 x1, .int .i64 x2, .int .i64 x3, .int .i64 x4, .int .i64 x5, .int .i64 x6, .int .i64 1, v12], .int .i64 cd]) (caps := []) (t := 95) rfl rfl rfl rfl rfl (by exact Try.call35) rfl rfl (jb_Ends x0 x1 x2 x3 x4 x5 x6 1 cd v12 hV13) (fun _ _ h => h) RoOk.nil rfl ?_
          refine Mx.gq (t := 95) rfl rfl rfl rfl rfl (Qt.ld rfl (Cel.var 9 rfl) (o := 0) (off := 0) rfl (Cut.agg [.int .i64 x0, .int .i64 x1, .int .i64 x2, .int .i64 x3, .int .i64 x4, .int .i64 x5, .int .i64 x6, .int .i64 1, v12] Try.isAgg28 Try.sizeOf28 rfl rfl)) rfl ?_
          refine Mx.gq (t := 95) rfl rfl rfl rfl rfl (Pu.qt (Pu.fieldAddr (off' := 1) Try.runUnderlying35 rfl Try.sizeOf3 rfl rfl rfl)) rfl ?_
          refine Mx.gq (t := 95) rfl rfl rfl rfl rfl (Qt.ld rfl (Cel.var 8 rfl) (o := 0) (off := 1) rfl (Cut.one Try.isAgg3 rfl)) rfl ?_
          refine Mx.gcall (vs := [.agg #[.int .i64 x0, .int .i64 x1, .int .i64 x2, .int .i64 x3, .int .i64 x4, .int .i64 x5, .int .i64 x6, .int .i64 1, v12], .int .i64 cd]) (caps := []) (t := 95) rfl rfl rfl rfl rfl (by exact Try.call36) rfl rfl (r32_Ends x0 x1 x2 x3 x4 x5 x6 1 cd v12 hV13) (fun _ _ h => h) RoOk.nil rfl ?_
          refine Mx.gq (t := 95) rfl rfl rfl rfl rfl (Pu.qt (Pu.neq rfl rfl)) rfl ?_
          refine Mx.p rfl (Pu.pickF rfl rfl rfl) rfl ?_
          refine Mx.p rfl (Pu.move rfl) rfl ?_
          refine Mx.gq (t := 106) rfl rfl rfl (by simp) rfl (Pu.qt (Pu.move rfl)) rfl ?_
          refine Mx.gq (t := 106) rfl rfl rfl (by simp) rfl (Pu.qt (Pu.eql rfl rfl)) rfl ?_
          refine Mx.gq (t := 106) rfl rfl rfl (by simp) rfl (Pu.qt (Pu.fieldAddr (off' := 7) Try.runUnderlying28 rfl Try.sizeOf3 rfl rfl rfl)) rfl ?_
          refine Mx.gq (t := 106) rfl rfl rfl (by simp) rfl (Qt.ld rfl (Cel.var 9 rfl) (o := 0) (off := 7) rfl (Cut.one Try.isAgg3 rfl)) rfl ?_
          refine Mx.gq (t := 106) rfl rfl rfl (by simp) rfl (Pu.qt (Pu.eql rfl rfl)) rfl ?_
          refine Mx.gq (t := 106) rfl rfl rfl (by simp) rfl (Pu.qt (Pu.bneq Try.underlying4 rfl rfl)) rfl ?_
          refine Mx.p rfl (Pu.pickF rfl (by simp) rfl) rfl ?_
          refine Mx.p rfl (Pu.move rfl) rfl ?_
          refine Mx.gq (t := 114) rfl rfl rfl (by decide) rfl (Pu.qt (Pu.move rfl)) rfl ?_
          refine Mx.gq (t := 114) rfl rfl rfl (by decide) rfl (Pu.qt (Pu.eql rfl rfl)) rfl ?_
          refine Mx.gq (t := 114) rfl rfl rfl (by decide) rfl (Pu.qt (Pu.move rfl)) rfl ?_
          refine Mx.gq (t := 117) rfl rfl rfl rfl rfl (Pu.qt (Pu.move rfl)) rfl ?_
          refine Mx.gq (t := 117) rfl rfl rfl rfl rfl (Pu.qt (Pu.neq rfl rfl)) rfl ?_
          refine Mx.gq (t := 114) rfl rfl rfl (by decide) rfl (Pu.qt (Pu.pickT rfl rfl rfl)) rfl ?_
          refine Mx.p rfl (Pu.pickF rfl (by decide) rfl) rfl ?_
          refine Mx.p rfl (Pu.move rfl) rfl ?_
          refine Mx.gq (t := 122) rfl rfl rfl rfl rfl (Pu.qt (Pu.move rfl)) rfl ?_
          refine Mx.gq (t := 122) rfl rfl rfl rfl rfl (Pu.qt (Pu.neq rfl rfl)) rfl ?_
          refine Mx.gq (t := 122) rfl rfl rfl rfl rfl (Pu.qt (Pu.move rfl)) rfl ?_
          refine Mx.gskip (t := 125) rfl rfl rfl (no_bool (by decide)) rfl rfl ?_
          refine Mx.gskip (t := 125) rfl rfl rfl (no_bool (by decide)) rfl rfl ?_
          refine Mx.gskip (t := 125) rfl rfl rfl (no_bool (by decide)) rfl rfl ?_
          refine Mx.gskip (t := 128) rfl rfl rfl (no_undef _) rfl rfl ?_
          refine Mx.gskip (t := 128) rfl rfl rfl (no_undef _) rfl rfl ?_
          refine Mx.gskip (t := 125) rfl rfl rfl (no_bool (by decide)) rfl rfl ?_
          refine Mx.gq (t := 122) rfl rfl rfl rfl rfl (Pu.qt (Pu.pickF rfl rfl rfl)) rfl ?_
          refine Mx.p rfl (Pu.pickF rfl rfl rfl) rfl ?_
          refine Mx.nil ?_
          refine J.condF rfl rfl ?_
          refine J.skip ?_
          refine J.seq ?_
          refine J.drawMix [(0, false), (1, false), (2, false), (3, false), (4, false), (5, false), (6, false), (7, false), (8, false), (9, false), (10, false), (11, false), (12, false), (13, false), (14, false), (15, false), (16, false), (17, false), (18, false), (19, false), (20, false), (21, false), (22, true), (23, false), (24, false)] [0, 1, 2, 3, 4, 5, 6, 7, 8, 10] [var g44 [.int .i64 x0, .int .i64 x1, .int .i64 x2, .int .i64 x3, .int .i64 x4, .int .i64 x5, .int .i64 x6, .int .i64 1, v12] 28, var g41 [.int .i64 x0, .int .i64 x1, .int .i64 x2, .int .i64 x3, .int .i64 x4, .int .i64 x5, .int .i64 x6, .int .i64 1, V39] 28, row V39 3 1 ((Jb.rising js).map encZ), var g37 [.int .i64 x0, .int .i64 x1, .int .i64 x2, .int .i64 x3, .int .i64 x4, .int .i64 x5, .int .i64 x6, .int .i64 2, V35] 28, row V35 3 1 ((Jb.rising l).map encZ), var g33 [.int .i64 x0, .int .i64 x1, .int .i64 x2, .int .i64 x3, .int .i64 x4, .int .i64 x5, .int .i64 x6, .int .i64 2, V31] 28, row V31 3 1 ((Jb.rising l).map encZ), row (Value.slice none 0 0) 3 1 (([] : List Int).map encZ), row v12 3 1 ((Jb.rising js).map encZ), var g1 [.int .i64 x0, .int .i64 x1, .int .i64 x2, .int .i64 x3, .int .i64 x4, .int .i64 x5, .int .i64 x6, .int .i64 1, v12] 28] Try.mixed (by kernel_rfl) (by decide) rfl ?_
          refine Mx.q rfl (Qt.ld rfl (Cel.var 5 rfl) (o := 0) (off := 0) rfl (Cut.agg [.int .i64 x0, .int .i64 x1, .int .i64 x2, .int .i64 x3, .int .i64 x4, .int .i64 x5, .int .i64 x6, .int .i64 2, V31] Try.isAgg28 Try.sizeOf28 rfl rfl)) rfl ?_
          refine Mx.q rfl (Qt.ld rfl (Cel.var 1 rfl) (o := 0) (off := 0) rfl (Cut.agg [.int .i64 x0, .int .i64 x1, .int .i64 x2, .int .i64 x3, .int .i64 x4, .int .i64 x5, .int .i64 x6, .int .i64 1, V39] Try.isAgg28 Try.sizeOf28 rfl rfl)) rfl ?_
          refine Mx.call (vs := [.agg #[.int .i64 x0, .int .i64 x1, .int .i64 x2, .int .i64 x3, .int .i64 x4, .int .i64 x5, .int .i64 x6, .int .i64 2, V31], .agg #[.int .i64 x0, .int .i64 x1, .int .i64 x2, .int .i64 x3, .int .i64 x4, .int .i64 x5, .int .i64 x6, .int .i64 1, V39]]) (caps := []) rfl (by exact Try.call37) rfl rfl (jb_Same x0 x1 x2 x3 x4 x5 x6 2 V31 (Jb.rising l) x0 x1 x2 x3 x4 x5 x6 1 V39 (Jb.rising js) (by first | omega | (simp; done) | (have h_ := Jb.rising_len (l := js); first | omega | (have h2_ := Jb.without_len (l := Jb.rising js) (c := ac); omega)) | (have h_ := Jb.rising_len (l := l); omega)) (by first | omega | (simp; done) | (have h_ := Jb.rising_len (l := js); first | omega | (have h2_ := Jb.without_len (l := Jb.rising js) (c := ac); omega)) | (have h_ := Jb.rising_len (l := l); omega))) (fun _ _ h => h) (RoOk.of 6 rfl row_rd [] (by decide) rfl (RoOk.of 2 rfl row_rd [] (by decide) rfl RoOk.nil)) rfl ?_
          refine Mx.q rfl (Qt.ld rfl (Cel.var 3 rfl) (o := 0) (off := 0) rfl (Cut.agg [.int .i64 x0, .int .i64 x1, .int .i64 x2, .int .i64 x3, .int .i64 x4, .int .i64 x5, .int .i64 x6, .int .i64 2, V35] Try.isAgg28 Try.sizeOf28 rfl rfl)) rfl ?_
          refine Mx.q rfl (Qt.ld rfl (Cel.var 0 rfl) (o := 0) (off := 0) rfl (Cut.agg [.int .i64 x0, .int .i64 x1, .int .i64 x2, .int .i64 x3, .int .i64 x4, .int .i64 x5, .int .i64 x6, .int .i64 1, v12] Try.isAgg28 Try.sizeOf28 rfl rfl)) rfl ?_
          refine Mx.call (vs := [.agg #[.int .i64 x0, .int .i64 x1, .int .i64 x2, .int .i64 x3, .int .i64 x4, .int .i64 x5, .int .i64 x6, .int .i64 2, V35], .agg #[.int .i64 x0, .int .i64 x1, .int .i64 x2, .int .i64 x3, .int .i64 x4, .int .i64 x5, .int .i64 x6, .int .i64 1, v12]]) (caps := []) rfl (by exact Try.call15) rfl rfl (r32_Same x0 x1 x2 x3 x4 x5 x6 2 V35 (Jb.rising l) x0 x1 x2 x3 x4 x5 x6 1 v12 (Jb.rising js) (by first | omega | (simp; done) | (have h_ := Jb.rising_len (l := js); first | omega | (have h2_ := Jb.without_len (l := Jb.rising js) (c := ac); omega)) | (have h_ := Jb.rising_len (l := l); omega)) (by first | omega | (simp; done) | (have h_ := Jb.rising_len (l := js); first | omega | (have h2_ := Jb.without_len (l := Jb.rising js) (c := ac); omega)) | (have h_ := Jb.rising_len (l := l); omega))) (fun _ _ h => h) (RoOk.of 4 rfl row_rd [] (by decide) rfl (RoOk.of 8 rfl row_rd [] (by decide) rfl RoOk.nil)) rfl ?_
          refine Mx.p rfl (Pu.beql Try.underlying4 rfl rfl) rfl ?_
          refine Mx.p rfl (Pu.move rfl) rfl ?_
          refine Mx.gq (t := 141) rfl rfl rfl (by simp) rfl (Qt.ld rfl (Cel.var 9 rfl) (o := 0) (off := 0) rfl (Cut.agg [.int .i64 x0, .int .i64 x1, .int .i64 x2, .int .i64 x3, .int .i64 x4, .int .i64 x5, .int .i64 x6, .int .i64 1, v12] Try.isAgg28 Try.sizeOf28 rfl rfl)) rfl ?_
          refine Mx.gq (t := 141) rfl rfl rfl (by simp) rfl (Qt.ld rfl (Cel.var 9 rfl) (o := 0) (off := 0) rfl (Cut.agg [.int .i64 x0, .int .i64 x1, .int .i64 x2, .int .i64 x3, .int .i64 x4, .int .i64 x5, .int .i64 x6, .int .i64 1, v12] Try.isAgg28 Try.sizeOf28 rfl rfl)) rfl ?_
          refine Mx.gcall (vs := [.agg #[.int .i64 x0, .int .i64 x1, .int .i64 x2, .int .i64 x3, .int .i64 x4, .int .i64 x5, .int .i64 x6, .int .i64 1, v12], .agg #[.int .i64 x0, .int .i64 x1, .int .i64 x2, .int .i64 x3, .int .i64 x4, .int .i64 x5, .int .i64 x6, .int .i64 1, v12]]) (caps := []) (t := 141) rfl rfl rfl (by simp) rfl (by exact Try.call37) rfl rfl (jb_Same x0 x1 x2 x3 x4 x5 x6 1 v12 (Jb.rising js) x0 x1 x2 x3 x4 x5 x6 1 v12 (Jb.rising js) (by first | omega | (simp; done) | (have h_ := Jb.rising_len (l := js); first | omega | (have h2_ := Jb.without_len (l := Jb.rising js) (c := ac); omega)) | (have h_ := Jb.rising_len (l := l); omega)) (by first | omega | (simp; done) | (have h_ := Jb.rising_len (l := js); first | omega | (have h2_ := Jb.without_len (l := Jb.rising js) (c := ac); omega)) | (have h_ := Jb.rising_len (l := l); omega))) (fun _ _ h => h) (RoOk.of 8 rfl row_rd [] (by decide) rfl (RoOk.of 8 rfl row_rd [] (by decide) rfl RoOk.nil)) rfl ?_
          refine Mx.p rfl (Pu.pickT rfl (by simp) rfl) rfl ?_
          refine Mx.p rfl (Pu.move rfl) rfl ?_
          refine Mx.gq (t := 146) rfl rfl rfl (by simp) rfl (Pu.qt (Pu.fieldAddr (off' := 0) Try.runUnderlying28 rfl Try.sizeOf23 rfl rfl rfl)) rfl ?_
          refine Mx.gq (t := 146) rfl rfl rfl (by simp) rfl (Qt.ld rfl (Cel.var 9 rfl) (o := 0) (off := 0) rfl (Cut.agg [.int .i64 x0, .int .i64 x1, .int .i64 x2, .int .i64 x3, .int .i64 x4, .int .i64 x5, .int .i64 x6] Try.isAgg23 Try.sizeOf23 rfl rfl)) rfl ?_
          refine Mx.gcall (vs := [.agg #[.int .i64 x0, .int .i64 x1, .int .i64 x2, .int .i64 x3, .int .i64 x4, .int .i64 x5, .int .i64 x6]]) (caps := []) (t := 146) rfl rfl rfl (by simp) rfl (by exact Try.call13) rfl rfl (jb_New x0 x1 x2 x3 x4 x5 x6) (fun _ _ h => h) RoOk.nil rfl ?_
          refine Mx.gq (t := 146) rfl rfl rfl (by simp) rfl (Pu.qt (Pu.fieldAddr (off' := 0) Try.runUnderlying28 rfl Try.sizeOf23 rfl rfl rfl)) rfl ?_
          refine Mx.gq (t := 146) rfl rfl rfl (by simp) rfl (Qt.ld rfl (Cel.var 9 rfl) (o := 0) (off := 0) rfl (Cut.agg [.int .i64 x0, .int .i64 x1, .int .i64 x2, .int .i64 x3, .int .i64 x4, .int .i64 x5, .int .i64 x6] Try.isAgg23 Try.sizeOf23 rfl rfl)) rfl ?_
          refine Mx.gq (t := 146) rfl rfl rfl (by simp) rfl (Pu.qt (Pu.build [(0, .agg #[.int .i64 x0, .int .i64 x1, .int .i64 x2, .int .i64 x3, .int .i64 x4, .int .i64 x5, .int .i64 x6]), (1, .int .i64 1)] [.int .i64 x0, .int .i64 x1, .int .i64 x2, .int .i64 x3, .int .i64 x4, .int .i64 x5, .int .i64 x6, .int .i64 1, Value.slice none 0 0] #[(0, 7), (7, 1), (8, 1)] Try.runUnderlying28 Try.zeroValue28 (places28 Try.underlying28) rfl (by kernel_rfl))) rfl ?_
          refine Mx.gcall (vs := [.agg #[.int .i64 x0, .int .i64 x1, .int .i64 x2, .int .i64 x3, .int .i64 x4, .int .i64 x5, .int .i64 x6, .int .i64 1, Value.slice none 0 0], .agg #[.int .i64 x0, .int .i64 x1, .int .i64 x2, .int .i64 x3, .int .i64 x4, .int .i64 x5, .int .i64 x6, .int .i64 1, Value.slice none 0 0]]) (caps := []) (t := 146) rfl rfl rfl (by simp) rfl (by exact Try.call15) rfl rfl (r32_Same x0 x1 x2 x3 x4 x5 x6 1 (Value.slice none 0 0) ([] : List Int) x0 x1 x2 x3 x4 x5 x6 1 (Value.slice none 0 0) ([] : List Int) (by first | omega | (simp; done) | (have h_ := Jb.rising_len (l := js); first | omega | (have h2_ := Jb.without_len (l := Jb.rising js) (c := ac); omega)) | (have h_ := Jb.rising_len (l := l); omega)) (by first | omega | (simp; done) | (have h_ := Jb.rising_len (l := js); first | omega | (have h2_ := Jb.without_len (l := Jb.rising js) (c := ac); omega)) | (have h_ := Jb.rising_len (l := l); omega))) (fun _ _ h => h) (RoOk.of 7 rfl row_rd [] (by decide) rfl (RoOk.of 7 rfl row_rd [] (by decide) rfl RoOk.nil)) rfl ?_
          refine Mx.p rfl (Pu.pickT rfl (by simp) rfl) rfl ?_
          refine Mx.p rfl (Pu.move rfl) rfl ?_
          refine Mx.gl (t := 155) rfl rfl rfl (by simp) rfl (Lo.call [] (by exact Try.call11) rfl law32_awake [] [0, 1, 2, 3, 4, 5, 6, 7, 8, 9, 10] (by decide) rfl [var g44 [.int .i64 x0, .int .i64 x1, .int .i64 x2, .int .i64 x3, .int .i64 x4, .int .i64 x5, .int .i64 x6, .int .i64 1, v12] 28, var g41 [.int .i64 x0, .int .i64 x1, .int .i64 x2, .int .i64 x3, .int .i64 x4, .int .i64 x5, .int .i64 x6, .int .i64 1, V39] 28, row V39 3 1 ((Jb.rising js).map encZ), var g37 [.int .i64 x0, .int .i64 x1, .int .i64 x2, .int .i64 x3, .int .i64 x4, .int .i64 x5, .int .i64 x6, .int .i64 2, V35] 28, row V35 3 1 ((Jb.rising l).map encZ), var g33 [.int .i64 x0, .int .i64 x1, .int .i64 x2, .int .i64 x3, .int .i64 x4, .int .i64 x5, .int .i64 x6, .int .i64 2, V31] 28, row V31 3 1 ((Jb.rising l).map encZ), row (Value.slice none 0 0) 3 1 (([] : List Int).map encZ), row v12 3 1 ((Jb.rising js).map encZ), var g3 [.int .i64 ac, .int .i64 cd] 35, var g1 [.int .i64 x0, .int .i64 x1, .int .i64 x2, .int .i64 x3, .int .i64 x4, .int .i64 x5, .int .i64 x6, .int .i64 1, v12] 28] rfl RoOk.nil) rfl ?_
          rintro _ _ ⟨_, ⟨rfl, rfl⟩, rfl⟩
          refine MxK.go [0, 1, 2, 3, 4, 5, 6, 7, 8, 10] [0, 1, 2, 3, 4, 5, 6, 7, 8, 9] [var g44 [.int .i64 x0, .int .i64 x1, .int .i64 x2, .int .i64 x3, .int .i64 x4, .int .i64 x5, .int .i64 x6, .int .i64 1, v12] 28, var g41 [.int .i64 x0, .int .i64 x1, .int .i64 x2, .int .i64 x3, .int .i64 x4, .int .i64 x5, .int .i64 x6, .int .i64 1, V39] 28, row V39 3 1 ((Jb.rising js).map encZ), var g37 [.int .i64 x0, .int .i64 x1, .int .i64 x2, .int .i64 x3, .int .i64 x4, .int .i64 x5, .int .i64 x6, .int .i64 2, V35] 28, row V35 3 1 ((Jb.rising l).map encZ), var g33 [.int .i64 x0, .int .i64 x1, .int .i64 x2, .int .i64 x3, .int .i64 x4, .int .i64 x5, .int .i64 x6, .int .i64 2, V31] 28, row V31 3 1 ((Jb.rising l).map encZ), row (Value.slice none 0 0) 3 1 (([] : List Int).map encZ), row v12 3 1 ((Jb.rising js).map encZ), var g1 [.int .i64 x0, .int .i64 x1, .int .i64 x2, .int .i64 x3, .int .i64 x4, .int .i64 x5, .int .i64 x6, .int .i64 1, v12] 28] (by decide) rfl (by decide) rfl ?_
          refine Mx.p rfl (Pu.pickT rfl (by simp) rfl) rfl ?_
          refine Mx.p rfl (Pu.assign rfl) rfl ?_
          refine Mx.nil ?_
          exact J.ret (Fin.ret (rs := [.tmp 6]) rfl [_] ⟨rfl, trivial⟩ [] (by decide) [] rfl ⟨rfl, rfl⟩)
      ·
        have p47 := of_decide_eq_false h14
        refine by_bool (decide (ph = 2)) (fun h48 => ?_) (fun h48 => ?_)
        ·
          have p49 := of_decide_eq_true h48
          obtain rfl : ph = 2 := of_decide_eq_true h48
          refine by_bool (decide (ac ∈ Jb.rising js)) (fun h50 => ?_) (fun h50 => ?_)
          ·
            have p51 := of_decide_eq_true h50
            refine by_bool (decide (cd = 1)) (fun h52 => ?_) (fun h52 => ?_)
            ·
              have p53 := of_decide_eq_true h52
              obtain rfl : cd = 1 := of_decide_eq_true h52
              refine by_bool (decide (Jb.without (Jb.rising js) ac = [])) (fun h54 => ?_) (fun h54 => ?_)
              ·
                have p55 := of_decide_eq_true h54
                refine J.nilRow 3 1 ?_
                show J _ _ _ [row (Value.slice none 0 0) 3 1 (([] : List Int).map encZ), row v12 3 1 ((Jb.rising js).map encZ), var g3 [.int .i64 ac, .int .i64 1] 35, var g1 [.int .i64 x0, .int .i64 x1, .int .i64 x2, .int .i64 x3, .int .i64 x4, .int .i64 x5, .int .i64 x6, .int .i64 2, v12] 28]
                refine J.region ?_
                refine O.q (Qt.ld rfl (Cel.var 3 rfl) (o := 0) (off := 0) rfl (Cut.agg [.int .i64 x0, .int .i64 x1, .int .i64 x2, .int .i64 x3, .int .i64 x4, .int .i64 x5, .int .i64 x6, .int .i64 2, v12] Try.isAgg28 Try.sizeOf28 rfl rfl)) rfl ?_
                refine O.p (Pu.move rfl) rfl ?_
                refine O.l (Lo.call [.agg #[.int .i64 x0, .int .i64 x1, .int .i64 x2, .int .i64 x3, .int .i64 x4, .int .i64 x5, .int .i64 x6, .int .i64 2, v12], lv] (by exact Try.call12) rfl (jb_DoneNo x0 x1 x2 x3 x4 x5 x6 2 v12 lv l hV13 (by first | omega | (simp; done) | (have h_ := Jb.rising_len (l := js); first | omega | (have h2_ := Jb.without_len (l := Jb.rising js) (c := ac); omega)) | (have h_ := Jb.rising_len (l := l); omega)) (of_decide_eq_false rfl)) [] [0, 1, 2, 3] (by decide) rfl [row (Value.slice none 0 0) 3 1 (([] : List Int).map encZ), row v12 3 1 ((Jb.rising js).map encZ), var g3 [.int .i64 ac, .int .i64 1] 35, var g1 [.int .i64 x0, .int .i64 x1, .int .i64 x2, .int .i64 x3, .int .i64 x4, .int .i64 x5, .int .i64 x6, .int .i64 2, v12] 28] rfl (RoOk.ro 1 rfl [] rfl RoOk.nil)) rfl ?_
                rintro _ _ ⟨_, ⟨rfl, rfl⟩, rfl⟩
                refine O.p (Pu.move rfl) rfl ?_
                refine O.p (Pu.extract rfl rfl) rfl ?_
                refine O.p (Pu.extract rfl rfl) rfl ?_
                refine O.p (Pu.extract rfl rfl) rfl ?_
                refine O.l (Lo.alloc [.int .i64 0, .int .i64 0, .int .i64 0, .int .i64 0, .int .i64 0, .int .i64 0, .int .i64 0, .int .i64 0, Value.slice none 0 0] (by exact Try.zeroValue28) rfl) rfl ?_
                rintro _ _ ⟨g57, rfl, rfl⟩
                refine O.l0 (Lo.store 0 (vs := [.int .i64 0, .int .i64 0, .int .i64 0, .int .i64 0, .int .i64 0, .int .i64 0, .int .i64 0, .int .i64 0, Value.slice none 0 0]) [.int .i64 0, .int .i64 0, .int .i64 0, .int .i64 0, .int .i64 0, .int .i64 0, .int .i64 0, .int .i64 0, Value.slice none 0 0] rfl rfl rfl (by exact Try.sizeOf28) rfl rfl rfl rfl rfl) ?_
                rintro _ _ rfl
                refine O.p (Pu.assign rfl) rfl ?_
                refine O.p (Pu.assign rfl) rfl ?_
                refine O.nil ?_
                refine J.seq ?_
                refine J.region ?_
                refine O.q (Qt.ld rfl (Cel.var 4 rfl) (o := 0) (off := 0) rfl (Cut.agg [.int .i64 x0, .int .i64 x1, .int .i64 x2, .int .i64 x3, .int .i64 x4, .int .i64 x5, .int .i64 x6, .int .i64 2, v12] Try.isAgg28 Try.sizeOf28 rfl rfl)) rfl ?_
                refine O.p (Pu.move rfl) rfl ?_
                refine O.l (Lo.call [.agg #[.int .i64 x0, .int .i64 x1, .int .i64 x2, .int .i64 x3, .int .i64 x4, .int .i64 x5, .int .i64 x6, .int .i64 2, v12], lv] (by exact Try.call32) rfl (r32_DoneNo x0 x1 x2 x3 x4 x5 x6 2 v12 lv l hV13 (of_decide_eq_false rfl)) [] [0, 1, 2, 3, 4] (by decide) rfl [var g57 [.int .i64 0, .int .i64 0, .int .i64 0, .int .i64 0, .int .i64 0, .int .i64 0, .int .i64 0, .int .i64 0, Value.slice none 0 0] 28, row (Value.slice none 0 0) 3 1 (([] : List Int).map encZ), row v12 3 1 ((Jb.rising js).map encZ), var g3 [.int .i64 ac, .int .i64 1] 35, var g1 [.int .i64 x0, .int .i64 x1, .int .i64 x2, .int .i64 x3, .int .i64 x4, .int .i64 x5, .int .i64 x6, .int .i64 2, v12] 28] rfl (RoOk.ro 1 rfl [] rfl RoOk.nil)) rfl ?_
                rintro _ _ ⟨_, ⟨rfl, rfl⟩, rfl⟩
                refine O.p (Pu.move rfl) rfl ?_
                refine O.p (Pu.extract rfl rfl) rfl ?_
                refine O.p (Pu.extract rfl rfl) rfl ?_
                refine O.p (Pu.extract rfl rfl) rfl ?_
                refine O.l (Lo.alloc [.int .i64 0, .int .i64 0, .int .i64 0, .int .i64 0, .int .i64 0, .int .i64 0, .int .i64 0, .int .i64 0, Value.slice none 0 0] (by exact Try.zeroValue28) rfl) rfl ?_
                rintro _ _ ⟨g59, rfl, rfl⟩
                refine O.l0 (Lo.store 0 (vs := [.int .i64 0, .int .i64 0, .int .i64 0, .int .i64 0, .int .i64 0, .int .i64 0, .int .i64 0, .int .i64 0, Value.slice none 0 0]) [.int .i64 0, .int .i64 0, .int .i64 0, .int .i64 0, .int .i64 0, .int .i64 0, .int .i64 0, .int .i64 0, Value.slice none 0 0] rfl rfl rfl (by exact Try.sizeOf28) rfl rfl rfl rfl rfl) ?_
                rintro _ _ rfl
                refine O.p (Pu.assign rfl) rfl ?_
                refine O.p (Pu.assign rfl) rfl ?_
                refine O.nil ?_
                refine J.seq ?_
                refine J.region ?_
                refine O.q (Qt.ld rfl (Cel.var 5 rfl) (o := 0) (off := 0) rfl (Cut.agg [.int .i64 x0, .int .i64 x1, .int .i64 x2, .int .i64 x3, .int .i64 x4, .int .i64 x5, .int .i64 x6, .int .i64 2, v12] Try.isAgg28 Try.sizeOf28 rfl rfl)) rfl ?_
                refine O.p (Pu.fieldAddr (off' := 0) Try.runUnderlying35 rfl Try.sizeOf3 rfl rfl rfl) rfl ?_
                refine O.q (Qt.ld rfl (Cel.var 4 rfl) (o := 0) (off := 0) rfl (Cut.one Try.isAgg3 rfl)) rfl ?_
                refine O.p (Pu.fieldAddr (off' := 1) Try.runUnderlying35 rfl Try.sizeOf3 rfl rfl rfl) rfl ?_
                refine O.q (Qt.ld rfl (Cel.var 4 rfl) (o := 0) (off := 1) rfl (Cut.one Try.isAgg3 rfl)) rfl ?_
                refine O.l (Lo.call [.agg #[.int .i64 x0, .int .i64 x1, .int .i64 x2, .int .i64 x3, .int .i64 x4, .int .i64 x5, .int .i64 x6, .int .i64 2, v12], .int .i64 ac, .int .i64 1] (by exact Try.call14) rfl (jb_HeardE x0 x1 x2 x3 x4 x5 x6 v12 (Jb.rising js) ac (by first | omega | (simp; done) | (have h_ := Jb.rising_len (l := js); first | omega | (have h2_ := Jb.without_len (l := Jb.rising js) (c := ac); omega)) | (have h_ := Jb.rising_len (l := l); omega)) (of_decide_eq_true h50) (by exact Jb.rising_up _) (of_decide_eq_true h54)) [] [0, 1, 2, 3, 4, 5] (by decide) rfl [var g59 [.int .i64 0, .int .i64 0, .int .i64 0, .int .i64 0, .int .i64 0, .int .i64 0, .int .i64 0, .int .i64 0, Value.slice none 0 0] 28, var g57 [.int .i64 0, .int .i64 0, .int .i64 0, .int .i64 0, .int .i64 0, .int .i64 0, .int .i64 0, .int .i64 0, Value.slice none 0 0] 28, row (Value.slice none 0 0) 3 1 (([] : List Int).map encZ), row v12 3 1 ((Jb.rising js).map encZ), var g3 [.int .i64 ac, .int .i64 1] 35, var g1 [.int .i64 x0, .int .i64 x1, .int .i64 x2, .int .i64 x3, .int .i64 x4, .int .i64 x5, .int .i64 x6, .int .i64 2, v12] 28] rfl (RoOk.of 3 rfl row_rd [] (by decide) rfl RoOk.nil)) rfl ?_
                rintro _ _ ⟨_, ⟨rfl, rfl⟩, rfl⟩
                refine O.p (Pu.move rfl) rfl ?_
                refine O.p (Pu.extract rfl rfl) rfl ?_
                refine O.p (Pu.extract rfl rfl) rfl ?_
                refine O.l (Lo.alloc [.int .i64 0, .int .i64 0, .int .i64 0, .int .i64 0, .int .i64 0, .int .i64 0, .int .i64 0, .int .i64 0, Value.slice none 0 0] (by exact Try.zeroValue28) rfl) rfl ?_
                rintro _ _ ⟨g61, rfl, rfl⟩
                refine O.l0 (Lo.store 0 (vs := [.int .i64 0, .int .i64 0, .int .i64 0, .int .i64 0, .int .i64 0, .int .i64 0, .int .i64 0, .int .i64 0, Value.slice none 0 0]) [.int .i64 0, .int .i64 0, .int .i64 0, .int .i64 0, .int .i64 0, .int .i64 0, .int .i64 0, .int .i64 0, Value.slice none 0 0] rfl rfl rfl (by exact Try.sizeOf28) rfl rfl rfl rfl rfl) ?_
                rintro _ _ rfl
                refine O.p (Pu.assign rfl) rfl ?_
                refine O.nil ?_
                refine J.seq ?_
                refine J.region ?_
                refine O.q (Qt.ld rfl (Cel.var 6 rfl) (o := 0) (off := 0) rfl (Cut.agg [.int .i64 x0, .int .i64 x1, .int .i64 x2, .int .i64 x3, .int .i64 x4, .int .i64 x5, .int .i64 x6, .int .i64 2, v12] Try.isAgg28 Try.sizeOf28 rfl rfl)) rfl ?_
                refine O.p (Pu.fieldAddr (off' := 0) Try.runUnderlying35 rfl Try.sizeOf3 rfl rfl rfl) rfl ?_
                refine O.q (Qt.ld rfl (Cel.var 5 rfl) (o := 0) (off := 0) rfl (Cut.one Try.isAgg3 rfl)) rfl ?_
                refine O.p (Pu.fieldAddr (off' := 1) Try.runUnderlying35 rfl Try.sizeOf3 rfl rfl rfl) rfl ?_
                refine O.q (Qt.ld rfl (Cel.var 5 rfl) (o := 0) (off := 1) rfl (Cut.one Try.isAgg3 rfl)) rfl ?_
                refine O.l (Lo.call [.agg #[.int .i64 x0, .int .i64 x1, .int .i64 x2, .int .i64 x3, .int .i64 x4, .int .i64 x5, .int .i64 x6, .int .i64 2, v12], .int .i64 ac, .int .i64 1] (by exact Try.call33) rfl (r32_HeardE x0 x1 x2 x3 x4 x5 x6 v12 (Jb.rising js) ac (by first | omega | (simp; done) | (have h_ := Jb.rising_len (l := js); first | omega | (have h2_ := Jb.without_len (l := Jb.rising js) (c := ac); omega)) | (have h_ := Jb.rising_len (l := l); omega)) (of_decide_eq_true h50) (of_decide_eq_true h54)) [] [0, 1, 2, 3, 4, 5, 6] (by decide) rfl [var g61 [.int .i64 0, .int .i64 0, .int .i64 0, .int .i64 0, .int .i64 0, .int .i64 0, .int .i64 0, .int .i64 0, Value.slice none 0 0] 28, var g59 [.int .i64 0, .int .i64 0, .int .i64 0, .int .i64 0, .int .i64 0, .int .i64 0, .int .i64 0, .int .i64 0, Value.slice none 0 0] 28, var g57 [.int .i64 0, .int .i64 0, .int .i64 0, .int .i64 0, .int .i64 0, .int .i64 0, .int .i64 0, .int .i64 0, Value.slice none 0 0] 28, row (Value.slice none 0 0) 3 1 (([] : List Int).map encZ), row v12 3 1 ((Jb.rising js).map encZ), var g3 [.int .i64 ac, .int .i64 1] 35, var g1 [.int .i64 x0, .int .i64 x1, .int .i64 x2, .int .i64 x3, .int .i64 x4, .int .i64 x5, .int .i64 x6, .int .i64 2, v12] 28] rfl (RoOk.of 4 rfl row_rd [] (by decide) rfl RoOk.nil)) rfl ?_
                rintro _ _ ⟨_, ⟨rfl, rfl⟩, rfl⟩
                refine O.p (Pu.move rfl) rfl ?_
                refine O.p (Pu.extract rfl rfl) rfl ?_
                refine O.p (Pu.extract rfl rfl) rfl ?_
                refine O.l (Lo.alloc [.int .i64 0, .int .i64 0, .int .i64 0, .int .i64 0, .int .i64 0, .int .i64 0, .int .i64 0, .int .i64 0, Value.slice none 0 0] (by exact Try.zeroValue28) rfl) rfl ?_
                rintro _ _ ⟨g63, rfl, rfl⟩
                refine O.l0 (Lo.store 0 (vs := [.int .i64 0, .int .i64 0, .int .i64 0, .int .i64 0, .int .i64 0, .int .i64 0, .int .i64 0, .int .i64 0, Value.slice none 0 0]) [.int .i64 0, .int .i64 0, .int .i64 0, .int .i64 0, .int .i64 0, .int .i64 0, .int .i64 0, .int .i64 0, Value.slice none 0 0] rfl rfl rfl (by exact Try.sizeOf28) rfl rfl rfl rfl rfl) ?_
                rintro _ _ rfl
                refine O.p (Pu.assign rfl) rfl ?_
                refine O.nil ?_
                refine J.seq ?_
                refine J.region ?_
                refine O.q (Qt.ld rfl (Cel.var 7 rfl) (o := 0) (off := 0) rfl (Cut.agg [.int .i64 x0, .int .i64 x1, .int .i64 x2, .int .i64 x3, .int .i64 x4, .int .i64 x5, .int .i64 x6, .int .i64 2, v12] Try.isAgg28 Try.sizeOf28 rfl rfl)) rfl ?_
                refine O.l (Lo.call [.agg #[.int .i64 x0, .int .i64 x1, .int .i64 x2, .int .i64 x3, .int .i64 x4, .int .i64 x5, .int .i64 x6, .int .i64 2, v12]] (by exact Try.call34) rfl (jb_BrokenNo x0 x1 x2 x3 x4 x5 x6 2 v12 hV13 (by decide)) [] [0, 1, 2, 3, 4, 5, 6, 7] (by decide) rfl [var g63 [.int .i64 0, .int .i64 0, .int .i64 0, .int .i64 0, .int .i64 0, .int .i64 0, .int .i64 0, .int .i64 0, Value.slice none 0 0] 28, var g61 [.int .i64 0, .int .i64 0, .int .i64 0, .int .i64 0, .int .i64 0, .int .i64 0, .int .i64 0, .int .i64 0, Value.slice none 0 0] 28, var g59 [.int .i64 0, .int .i64 0, .int .i64 0, .int .i64 0, .int .i64 0, .int .i64 0, .int .i64 0, .int .i64 0, Value.slice none 0 0] 28, var g57 [.int .i64 0, .int .i64 0, .int .i64 0, .int .i64 0, .int .i64 0, .int .i64 0, .int .i64 0, .int .i64 0, Value.slice none 0 0] 28, row (Value.slice none 0 0) 3 1 (([] : List Int).map encZ), row v12 3 1 ((Jb.rising js).map encZ), var g3 [.int .i64 ac, .int .i64 1] 35, var g1 [.int .i64 x0, .int .i64 x1, .int .i64 x2, .int .i64 x3, .int .i64 x4, .int .i64 x5, .int .i64 x6, .int .i64 2, v12] 28] rfl RoOk.nil) rfl ?_
                rintro _ _ ⟨_, ⟨rfl, rfl⟩, rfl⟩
                refine O.p (Pu.move rfl) rfl ?_
                refine O.p (Pu.extract rfl rfl) rfl ?_
                refine O.p (Pu.extract rfl rfl) rfl ?_
                refine O.p (Pu.assign rfl) rfl ?_
                refine O.p (Pu.assign rfl) rfl ?_
                refine O.nil ?_
                refine J.seq ?_
                refine J.seq ?_
                refine J.drawMix [(0, false), (1, false), (2, false), (3, false), (4, false), (5, false), (6, false), (7, false), (8, false), (9, false), (10, false), (11, false), (12, false), (13, false), (14, false), (15, false), (16, false), (17, false), (18, false), (19, false), (20, false), (21, false), (22, false), (23, false), (24, false), (25, false), (26, false), (27, false), (28, false), (29, false), (30, false), (31, false), (32, false), (33, false), (34, false), (35, false), (36, false), (37, false), (38, false), (39, false), (40, false), (41, false), (42, false), (43, false), (44, false), (45, false), (46, false), (47, false), (48, false), (49, false), (50, false), (51, false), (52, false), (53, false), (54, false), (55, false), (56, false), (57, false), (58, false), (59, false), (60, false), (61, false), (62, false), (63, false)] [0, 1, 2, 3, 4, 6, 7] [var g63 [.int .i64 0, .int .i64 0, .int .i64 0, .int .i64 0, .int .i64 0, .int .i64 0, .int .i64 0, .int .i64 0, Value.slice none 0 0] 28, var g61 [.int .i64 0, .int .i64 0, .int .i64 0, .int .i64 0, .int .i64 0, .int .i64 0, .int .i64 0, .int .i64 0, Value.slice none 0 0] 28, var g59 [.int .i64 0, .int .i64 0, .int .i64 0, .int .i64 0, .int .i64 0, .int .i64 0, .int .i64 0, .int .i64 0, Value.slice none 0 0] 28, var g57 [.int .i64 0, .int .i64 0, .int .i64 0, .int .i64 0, .int .i64 0, .int .i64 0, .int .i64 0, .int .i64 0, Value.slice none 0 0] 28, row (Value.slice none 0 0) 3 1 (([] : List Int).map encZ), var g3 [.int .i64 ac, .int .i64 1] 35, var g1 [.int .i64 x0, .int .i64 x1, .int .i64 x2, .int .i64 x3, .int .i64 x4, .int .i64 x5, .int .i64 x6, .int .i64 2, v12] 28] Try.mixed (by kernel_rfl) (by decide) rfl ?_
                refine Mx.q rfl (Qt.ld rfl (Cel.var 3 rfl) (o := 0) (off := 0) rfl (Cut.agg [.int .i64 0, .int .i64 0, .int .i64 0, .int .i64 0, .int .i64 0, .int .i64 0, .int .i64 0, .int .i64 0, Value.slice none 0 0] Try.isAgg28 Try.sizeOf28 rfl rfl)) rfl ?_
                refine Mx.q rfl (Qt.ld rfl (Cel.var 2 rfl) (o := 0) (off := 0) rfl (Cut.agg [.int .i64 0, .int .i64 0, .int .i64 0, .int .i64 0, .int .i64 0, .int .i64 0, .int .i64 0, .int .i64 0, Value.slice none 0 0] Try.isAgg28 Try.sizeOf28 rfl rfl)) rfl ?_
                refine Mx.call (vs := [.agg #[.int .i64 0, .int .i64 0, .int .i64 0, .int .i64 0, .int .i64 0, .int .i64 0, .int .i64 0, .int .i64 0, Value.slice none 0 0], .agg #[.int .i64 0, .int .i64 0, .int .i64 0, .int .i64 0, .int .i64 0, .int .i64 0, .int .i64 0, .int .i64 0, Value.slice none 0 0]]) (caps := []) rfl (by exact Try.call15) rfl rfl (r32_Same 0 0 0 0 0 0 0 0 (Value.slice none 0 0) ([] : List Int) 0 0 0 0 0 0 0 0 (Value.slice none 0 0) ([] : List Int) (by first | omega | (simp; done) | (have h_ := Jb.rising_len (l := js); first | omega | (have h2_ := Jb.without_len (l := Jb.rising js) (c := ac); omega)) | (have h_ := Jb.rising_len (l := l); omega)) (by first | omega | (simp; done) | (have h_ := Jb.rising_len (l := js); first | omega | (have h2_ := Jb.without_len (l := Jb.rising js) (c := ac); omega)) | (have h_ := Jb.rising_len (l := l); omega))) (fun _ _ h => h) (RoOk.of 4 rfl row_rd [] (by decide) rfl (RoOk.of 4 rfl row_rd [] (by decide) rfl RoOk.nil)) rfl ?_
                refine Mx.p rfl (Pu.not rfl) rfl ?_
                refine Mx.p rfl (Pu.move rfl) rfl ?_
                refine Mx.gq (t := 74) rfl rfl rfl (not_of_true (by simp)) rfl (Pu.qt (Pu.move rfl)) rfl ?_
                refine Mx.gq (t := 74) rfl rfl rfl (not_of_true (by simp)) rfl (Pu.qt (Pu.move rfl)) rfl ?_
                refine Mx.gq (t := 74) rfl rfl rfl (not_of_true (by simp)) rfl (Pu.qt (Pu.neq rfl rfl)) rfl ?_
                refine Mx.p rfl (Pu.pickF rfl (not_of_true (by simp)) rfl) rfl ?_
                refine Mx.p rfl (Pu.move rfl) rfl ?_
                refine Mx.gq (t := 79) rfl rfl rfl rfl rfl (Pu.qt (Pu.move rfl)) rfl ?_
                refine Mx.gq (t := 79) rfl rfl rfl rfl rfl (Pu.qt (Pu.move rfl)) rfl ?_
                refine Mx.gq (t := 79) rfl rfl rfl rfl rfl (Pu.qt (Pu.neq rfl rfl)) rfl ?_
                refine Mx.p rfl (Pu.pickF rfl rfl rfl) rfl ?_
                refine Mx.p rfl (Pu.move rfl) rfl ?_
                refine Mx.gq (t := 84) rfl rfl rfl rfl rfl (Qt.ld rfl (Cel.var 1 rfl) (o := 0) (off := 0) rfl (Cut.agg [.int .i64 0, .int .i64 0, .int .i64 0, .int .i64 0, .int .i64 0, .int .i64 0, .int .i64 0, .int .i64 0, Value.slice none 0 0] Try.isAgg28 Try.sizeOf28 rfl rfl)) rfl ?_
                refine Mx.gq (t := 84) rfl rfl rfl rfl rfl (Qt.ld rfl (Cel.var 0 rfl) (o := 0) (off := 0) rfl (Cut.agg [.int .i64 0, .int .i64 0, .int .i64 0, .int .i64 0, .int .i64 0, .int .i64 0, .int .i64 0, .int .i64 0, Value.slice none 0 0] Try.isAgg28 Try.sizeOf28 rfl rfl)) rfl ?_
                refine Mx.gcall (vs := [.agg #[.int .i64 0, .int .i64 0, .int .i64 0, .int .i64 0, .int .i64 0, .int .i64 0, .int .i64 0, .int .i64 0, Value.slice none 0 0], .agg #[.int .i64 0, .int .i64 0, .int .i64 0, .int .i64 0, .int .i64 0, .int .i64 0, .int .i64 0, .int .i64 0, Value.slice none 0 0]]) (caps := []) (t := 84) rfl rfl rfl rfl rfl (by exact Try.call15) rfl rfl (r32_Same 0 0 0 0 0 0 0 0 (Value.slice none 0 0) ([] : List Int) 0 0 0 0 0 0 0 0 (Value.slice none 0 0) ([] : List Int) (by first | omega | (simp; done) | (have h_ := Jb.rising_len (l := js); first | omega | (have h2_ := Jb.without_len (l := Jb.rising js) (c := ac); omega)) | (have h_ := Jb.rising_len (l := l); omega)) (by first | omega | (simp; done) | (have h_ := Jb.rising_len (l := js); first | omega | (have h2_ := Jb.without_len (l := Jb.rising js) (c := ac); omega)) | (have h_ := Jb.rising_len (l := l); omega))) (fun _ _ h => h) (RoOk.of 4 rfl row_rd [] (by decide) rfl (RoOk.of 4 rfl row_rd [] (by decide) rfl RoOk.nil)) rfl ?_
                refine Mx.gq (t := 84) rfl rfl rfl rfl rfl (Pu.qt (Pu.not rfl)) rfl ?_
                refine Mx.p rfl (Pu.pickF rfl rfl rfl) rfl ?_
                refine Mx.p rfl (Pu.move rfl) rfl ?_
                refine Mx.gq (t := 90) rfl rfl rfl (not_of_true (by simp)) rfl (Pu.qt (Pu.move rfl)) rfl ?_
                refine Mx.gq (t := 90) rfl rfl rfl (not_of_true (by simp)) rfl (Pu.qt (Pu.move rfl)) rfl ?_
                refine Mx.gq (t := 90) rfl rfl rfl (not_of_true (by simp)) rfl (Pu.qt (Pu.neq rfl rfl)) rfl ?_
                refine Mx.p rfl (Pu.pickF rfl (not_of_true (by simp)) rfl) rfl ?_
                refine Mx.p rfl (Pu.move rfl) rfl ?_
                refine Mx.gq (t := 95) rfl rfl rfl rfl rfl (Qt.ld rfl (Cel.var 6 rfl) (o := 0) (off := 0) rfl (Cut.agg [.int .i64 x0, .int .i64 x1, .int .i64 x2, .int .i64 x3, .int .i64 x4, .int .i64 x5, .int .i64 x6, .int .i64 2, v12] Try.isAgg28 Try.sizeOf28 rfl rfl)) rfl ?_
                refine Mx.gq (t := 95) rfl rfl rfl rfl rfl (Pu.qt (Pu.fieldAddr (off' := 1) Try.runUnderlying35 rfl Try.sizeOf3 rfl rfl rfl)) rfl ?_
                refine Mx.gq (t := 95) rfl rfl rfl rfl rfl (Qt.ld rfl (Cel.var 5 rfl) (o := 0) (off := 1) rfl (Cut.one Try.isAgg3 rfl)) rfl ?_
                refine Mx.gcall (vs := [.agg #[.int .i64 x0, .int .i64 x1, .int .i64 x2, .int .i64 x3, .int .i64 x4, .int .i64 x5, .int .i64 x6, .int .i64 2, v12], .int .i64 1]) (caps := []) (t := 95) rfl rfl rfl rfl rfl (by exact Try.call35) rfl rfl (jb_Ends x0 x1 x2 x3 x4 x5 x6 2 1 v12 hV13) (fun _ _ h => h) RoOk.nil rfl ?_
                refine Mx.gq (t := 95) rfl rfl rfl rfl rfl (Qt.ld rfl (Cel.var 6 rfl) (o := 0) (off := 0) rfl (Cut.agg [.int .i64 x0, .int .i64 x1, .int .i64 x2, .int .i64 x3, .int .i64 x4, .int .i64 x5, .int .i64 x6, .int .i64 2, v12] Try.isAgg28 Try.sizeOf28 rfl rfl)) rfl ?_
                refine Mx.gq (t := 95) rfl rfl rfl rfl rfl (Pu.qt (Pu.fieldAddr (off' := 1) Try.runUnderlying35 rfl Try.sizeOf3 rfl rfl rfl)) rfl ?_
                refine Mx.gq (t := 95) rfl rfl rfl rfl rfl (Qt.ld rfl (Cel.var 5 rfl) (o := 0) (off := 1) rfl (Cut.one Try.isAgg3 rfl)) rfl ?_
                refine Mx.gcall (vs := [.agg #[.int .i64 x0, .int .i64 x1, .int .i64 x2, .int .i64 x3, .int .i64 x4, .int .i64 x5, .int .i64 x6, .int .i64 2, v12], .int .i64 1]) (caps := []) (t := 95) rfl rfl rfl rfl rfl (by exact Try.call36) rfl rfl (r32_Ends x0 x1 x2 x3 x4 x5 x6 2 1 v12 hV13) (fun _ _ h => h) RoOk.nil rfl ?_
                refine Mx.gq (t := 95) rfl rfl rfl rfl rfl (Pu.qt (Pu.neq rfl rfl)) rfl ?_
                refine Mx.p rfl (Pu.pickF rfl rfl rfl) rfl ?_
                refine Mx.p rfl (Pu.move rfl) rfl ?_
                refine Mx.gq (t := 106) rfl rfl rfl (by simp) rfl (Pu.qt (Pu.move rfl)) rfl ?_
                refine Mx.gq (t := 106) rfl rfl rfl (by simp) rfl (Pu.qt (Pu.eql rfl rfl)) rfl ?_
                refine Mx.gq (t := 106) rfl rfl rfl (by simp) rfl (Pu.qt (Pu.fieldAddr (off' := 7) Try.runUnderlying28 rfl Try.sizeOf3 rfl rfl rfl)) rfl ?_
                refine Mx.gq (t := 106) rfl rfl rfl (by simp) rfl (Qt.ld rfl (Cel.var 6 rfl) (o := 0) (off := 7) rfl (Cut.one Try.isAgg3 rfl)) rfl ?_
                refine Mx.gq (t := 106) rfl rfl rfl (by simp) rfl (Pu.qt (Pu.eql rfl rfl)) rfl ?_
                refine Mx.gq (t := 106) rfl rfl rfl (by simp) rfl (Pu.qt (Pu.bneq Try.underlying4 rfl rfl)) rfl ?_
                refine Mx.p rfl (Pu.pickF rfl (by simp) rfl) rfl ?_
                refine Mx.p rfl (Pu.move rfl) rfl ?_
                refine Mx.gq (t := 114) rfl rfl rfl (by decide) rfl (Pu.qt (Pu.move rfl)) rfl ?_
                refine Mx.gq (t := 114) rfl rfl rfl (by decide) rfl (Pu.qt (Pu.eql rfl rfl)) rfl ?_
                refine Mx.gq (t := 114) rfl rfl rfl (by decide) rfl (Pu.qt (Pu.move rfl)) rfl ?_
                refine Mx.gskip (t := 117) rfl rfl rfl (no_bool (by decide)) rfl rfl ?_
                refine Mx.gskip (t := 117) rfl rfl rfl (no_bool (by decide)) rfl rfl ?_
                refine Mx.gq (t := 114) rfl rfl rfl (by decide) rfl (Pu.qt (Pu.pickF rfl rfl rfl)) rfl ?_
                refine Mx.p rfl (Pu.pickF rfl (by decide) rfl) rfl ?_
                refine Mx.p rfl (Pu.move rfl) rfl ?_
                refine Mx.gq (t := 122) rfl rfl rfl rfl rfl (Pu.qt (Pu.move rfl)) rfl ?_
                refine Mx.gq (t := 122) rfl rfl rfl rfl rfl (Pu.qt (Pu.neq rfl rfl)) rfl ?_
                refine Mx.gq (t := 122) rfl rfl rfl rfl rfl (Pu.qt (Pu.move rfl)) rfl ?_
                refine Mx.gq (t := 125) rfl rfl rfl rfl rfl (Pu.qt (Pu.move rfl)) rfl ?_
                refine Mx.gq (t := 125) rfl rfl rfl rfl rfl (Pu.qt (Pu.neq rfl rfl)) rfl ?_
                refine Mx.gq (t := 125) rfl rfl rfl rfl rfl (Pu.qt (Pu.move rfl)) rfl ?_
                refine Mx.gq (t := 128) rfl rfl rfl rfl rfl (Pu.qt (Pu.move rfl)) rfl ?_
                refine Mx.gq (t := 128) rfl rfl rfl rfl rfl (Pu.qt (Pu.neq rfl rfl)) rfl ?_
                refine Mx.gq (t := 125) rfl rfl rfl rfl rfl (Pu.qt (Pu.pickF rfl rfl rfl)) rfl ?_
                refine Mx.gq (t := 122) rfl rfl rfl rfl rfl (Pu.qt (Pu.pickT rfl rfl rfl)) rfl ?_
                refine Mx.p rfl (Pu.pickF rfl rfl rfl) rfl ?_
                refine Mx.nil ?_
                refine J.condF rfl rfl ?_
                refine J.skip ?_
                refine J.seq ?_
                refine J.drawMix [(0, false), (1, false), (2, false), (3, false), (4, false), (5, false), (6, false), (7, false), (8, false), (9, false), (10, false), (11, false), (12, false), (13, false), (14, false), (15, false), (16, false), (17, false), (18, false), (19, false), (20, false), (21, false), (22, true), (23, false), (24, false)] [0, 1, 2, 3, 4, 5, 7] [var g63 [.int .i64 0, .int .i64 0, .int .i64 0, .int .i64 0, .int .i64 0, .int .i64 0, .int .i64 0, .int .i64 0, Value.slice none 0 0] 28, var g61 [.int .i64 0, .int .i64 0, .int .i64 0, .int .i64 0, .int .i64 0, .int .i64 0, .int .i64 0, .int .i64 0, Value.slice none 0 0] 28, var g59 [.int .i64 0, .int .i64 0, .int .i64 0, .int .i64 0, .int .i64 0, .int .i64 0, .int .i64 0, .int .i64 0, Value.slice none 0 0] 28, var g57 [.int .i64 0, .int .i64 0, .int .i64 0, .int .i64 0, .int .i64 0, .int .i64 0, .int .i64 0, .int .i64 0, Value.slice none 0 0] 28, row (Value.slice none 0 0) 3 1 (([] : List Int).map encZ), row v12 3 1 ((Jb.rising js).map encZ), var g1 [.int .i64 x0, .int .i64 x1, .int .i64 x2, .int .i64 x3, .int .i64 x4, .int .i64 x5, .int .i64 x6, .int .i64 2, v12] 28] Try.mixed (by kernel_rfl) (by decide) rfl ?_
                refine Mx.q rfl (Qt.ld rfl (Cel.var 3 rfl) (o := 0) (off := 0) rfl (Cut.agg [.int .i64 0, .int .i64 0, .int .i64 0, .int .i64 0, .int .i64 0, .int .i64 0, .int .i64 0, .int .i64 0, Value.slice none 0 0] Try.isAgg28 Try.sizeOf28 rfl rfl)) rfl ?_
                refine Mx.q rfl (Qt.ld rfl (Cel.var 1 rfl) (o := 0) (off := 0) rfl (Cut.agg [.int .i64 0, .int .i64 0, .int .i64 0, .int .i64 0, .int .i64 0, .int .i64 0, .int .i64 0, .int .i64 0, Value.slice none 0 0] Try.isAgg28 Try.sizeOf28 rfl rfl)) rfl ?_
                refine Mx.call (vs := [.agg #[.int .i64 0, .int .i64 0, .int .i64 0, .int .i64 0, .int .i64 0, .int .i64 0, .int .i64 0, .int .i64 0, Value.slice none 0 0], .agg #[.int .i64 0, .int .i64 0, .int .i64 0, .int .i64 0, .int .i64 0, .int .i64 0, .int .i64 0, .int .i64 0, Value.slice none 0 0]]) (caps := []) rfl (by exact Try.call37) rfl rfl (jb_Same 0 0 0 0 0 0 0 0 (Value.slice none 0 0) ([] : List Int) 0 0 0 0 0 0 0 0 (Value.slice none 0 0) ([] : List Int) (by first | omega | (simp; done) | (have h_ := Jb.rising_len (l := js); first | omega | (have h2_ := Jb.without_len (l := Jb.rising js) (c := ac); omega)) | (have h_ := Jb.rising_len (l := l); omega)) (by first | omega | (simp; done) | (have h_ := Jb.rising_len (l := js); first | omega | (have h2_ := Jb.without_len (l := Jb.rising js) (c := ac); omega)) | (have h_ := Jb.rising_len (l := l); omega))) (fun _ _ h => h) (RoOk.of 4 rfl row_rd [] (by decide) rfl (RoOk.of 4 rfl row_rd [] (by decide) rfl RoOk.nil)) rfl ?_
                refine Mx.q rfl (Qt.ld rfl (Cel.var 2 rfl) (o := 0) (off := 0) rfl (Cut.agg [.int .i64 0, .int .i64 0, .int .i64 0, .int .i64 0, .int .i64 0, .int .i64 0, .int .i64 0, .int .i64 0, Value.slice none 0 0] Try.isAgg28 Try.sizeOf28 rfl rfl)) rfl ?_
                refine Mx.q rfl (Qt.ld rfl (Cel.var 0 rfl) (o := 0) (off := 0) rfl (Cut.agg [.int .i64 0, .int .i64 0, .int .i64 0, .int .i64 0, .int .i64 0, .int .i64 0, .int .i64 0, .int .i64 0, Value.slice none 0 0] Try.isAgg28 Try.sizeOf28 rfl rfl)) rfl ?_
                refine Mx.call (vs := [.agg #[.int .i64 0, .int .i64 0, .int .i64 0, .int .i64 0, .int .i64 0, .int .i64 0, .int .i64 0, .int .i64 0, Value.slice none 0 0], .agg #[.int .i64 0, .int .i64 0, .int .i64 0, .int .i64 0, .int .i64 0, .int .i64 0, .int .i64 0, .int .i64 0, Value.slice none 0 0]]) (caps := []) rfl (by exact Try.call15) rfl rfl (r32_Same 0 0 0 0 0 0 0 0 (Value.slice none 0 0) ([] : List Int) 0 0 0 0 0 0 0 0 (Value.slice none 0 0) ([] : List Int) (by first | omega | (simp; done) | (have h_ := Jb.rising_len (l := js); first | omega | (have h2_ := Jb.without_len (l := Jb.rising js) (c := ac); omega)) | (have h_ := Jb.rising_len (l := l); omega)) (by first | omega | (simp; done) | (have h_ := Jb.rising_len (l := js); first | omega | (have h2_ := Jb.without_len (l := Jb.rising js) (c := ac); omega)) | (have h_ := Jb.rising_len (l := l); omega))) (fun _ _ h => h) (RoOk.of 4 rfl row_rd [] (by decide) rfl (RoOk.of 4 rfl row_rd [] (by decide) rfl RoOk.nil)) rfl ?_
                refine Mx.p rfl (Pu.beql Try.underlying4 rfl rfl) rfl ?_
                refine Mx.p rfl (Pu.move rfl) rfl ?_
                refine Mx.gq (t := 141) rfl rfl rfl (by simp) rfl (Qt.ld rfl (Cel.var 6 rfl) (o := 0) (off := 0) rfl (Cut.agg [.int .i64 x0, .int .i64 x1, .int .i64 x2, .int .i64 x3, .int .i64 x4, .int .i64 x5, .int .i64 x6, .int .i64 2, v12] Try.isAgg28 Try.sizeOf28 rfl rfl)) rfl ?_
                refine Mx.gq (t := 141) rfl rfl rfl (by simp) rfl (Qt.ld rfl (Cel.var 6 rfl) (o := 0) (off := 0) rfl (Cut.agg [.int .i64 x0, .int .i64 x1, .int .i64 x2, .int .i64 x3, .int .i64 x4, .int .i64 x5, .int .i64 x6, .int .i64 2, v12] Try.isAgg28 Try.sizeOf28 rfl rfl)) rfl ?_
                refine Mx.gcall (vs := [.agg #[.int .i64 x0, .int .i64 x1, .int .i64 x2, .int .i64 x3, .int .i64 x4, .int .i64 x5, .int .i64 x6, .int .i64 2, v12], .agg #[.int .i64 x0, .int .i64 x1, .int .i64 x2, .int .i64 x3, .int .i64 x4, .int .i64 x5, .int .i64 x6, .int .i64 2, v12]]) (caps := []) (t := 141) rfl rfl rfl (by simp) rfl (by exact Try.call37) rfl rfl (jb_Same x0 x1 x2 x3 x4 x5 x6 2 v12 (Jb.rising js) x0 x1 x2 x3 x4 x5 x6 2 v12 (Jb.rising js) (by first | omega | (simp; done) | (have h_ := Jb.rising_len (l := js); first | omega | (have h2_ := Jb.without_len (l := Jb.rising js) (c := ac); omega)) | (have h_ := Jb.rising_len (l := l); omega)) (by first | omega | (simp; done) | (have h_ := Jb.rising_len (l := js); first | omega | (have h2_ := Jb.without_len (l := Jb.rising js) (c := ac); omega)) | (have h_ := Jb.rising_len (l := l); omega))) (fun _ _ h => h) (RoOk.of 5 rfl row_rd [] (by decide) rfl (RoOk.of 5 rfl row_rd [] (by decide) rfl RoOk.nil)) rfl ?_
                refine Mx.p rfl (Pu.pickT rfl (by simp) rfl) rfl ?_
                refine Mx.p rfl (Pu.move rfl) rfl ?_
                refine Mx.gq (t := 146) rfl rfl rfl (by simp) rfl (Pu.qt (Pu.fieldAddr (off' := 0) Try.runUnderlying28 rfl Try.sizeOf23 rfl rfl rfl)) rfl ?_
                refine Mx.gq (t := 146) rfl rfl rfl (by simp) rfl (Qt.ld rfl (Cel.var 6 rfl) (o := 0) (off := 0) rfl (Cut.agg [.int .i64 x0, .int .i64 x1, .int .i64 x2, .int .i64 x3, .int .i64 x4, .int .i64 x5, .int .i64 x6] Try.isAgg23 Try.sizeOf23 rfl rfl)) rfl ?_
                refine Mx.gcall (vs := [.agg #[.int .i64 x0, .int .i64 x1, .int .i64 x2, .int .i64 x3, .int .i64 x4, .int .i64 x5, .int .i64 x6]]) (caps := []) (t := 146) rfl rfl rfl (by simp) rfl (by exact Try.call13) rfl rfl (jb_New x0 x1 x2 x3 x4 x5 x6) (fun _ _ h => h) RoOk.nil rfl ?_
                refine Mx.gq (t := 146) rfl rfl rfl (by simp) rfl (Pu.qt (Pu.fieldAddr (off' := 0) Try.runUnderlying28 rfl Try.sizeOf23 rfl rfl rfl)) rfl ?_
                refine Mx.gq (t := 146) rfl rfl rfl (by simp) rfl (Qt.ld rfl (Cel.var 6 rfl) (o := 0) (off := 0) rfl (Cut.agg [.int .i64 x0, .int .i64 x1, .int .i64 x2, .int .i64 x3, .int .i64 x4, .int .i64 x5, .int .i64 x6] Try.isAgg23 Try.sizeOf23 rfl rfl)) rfl ?_
                refine Mx.gq (t := 146) rfl rfl rfl (by simp) rfl (Pu.qt (Pu.build [(0, .agg #[.int .i64 x0, .int .i64 x1, .int .i64 x2, .int .i64 x3, .int .i64 x4, .int .i64 x5, .int .i64 x6]), (1, .int .i64 1)] [.int .i64 x0, .int .i64 x1, .int .i64 x2, .int .i64 x3, .int .i64 x4, .int .i64 x5, .int .i64 x6, .int .i64 1, Value.slice none 0 0] #[(0, 7), (7, 1), (8, 1)] Try.runUnderlying28 Try.zeroValue28 (places28 Try.underlying28) rfl (by kernel_rfl))) rfl ?_
                refine Mx.gcall (vs := [.agg #[.int .i64 x0, .int .i64 x1, .int .i64 x2, .int .i64 x3, .int .i64 x4, .int .i64 x5, .int .i64 x6, .int .i64 1, Value.slice none 0 0], .agg #[.int .i64 x0, .int .i64 x1, .int .i64 x2, .int .i64 x3, .int .i64 x4, .int .i64 x5, .int .i64 x6, .int .i64 1, Value.slice none 0 0]]) (caps := []) (t := 146) rfl rfl rfl (by simp) rfl (by exact Try.call15) rfl rfl (r32_Same x0 x1 x2 x3 x4 x5 x6 1 (Value.slice none 0 0) ([] : List Int) x0 x1 x2 x3 x4 x5 x6 1 (Value.slice none 0 0) ([] : List Int) (by first | omega | (simp; done) | (have h_ := Jb.rising_len (l := js); first | omega | (have h2_ := Jb.without_len (l := Jb.rising js) (c := ac); omega)) | (have h_ := Jb.rising_len (l := l); omega)) (by first | omega | (simp; done) | (have h_ := Jb.rising_len (l := js); first | omega | (have h2_ := Jb.without_len (l := Jb.rising js) (c := ac); omega)) | (have h_ := Jb.rising_len (l := l); omega))) (fun _ _ h => h) (RoOk.of 4 rfl row_rd [] (by decide) rfl (RoOk.of 4 rfl row_rd [] (by decide) rfl RoOk.nil)) rfl ?_
                refine Mx.p rfl (Pu.pickT rfl (by simp) rfl) rfl ?_
                refine Mx.p rfl (Pu.move rfl) rfl ?_
                refine Mx.gl (t := 155) rfl rfl rfl (by simp) rfl (Lo.call [] (by exact Try.call11) rfl law32_awake [] [0, 1, 2, 3, 4, 5, 6, 7] (by decide) rfl [var g63 [.int .i64 0, .int .i64 0, .int .i64 0, .int .i64 0, .int .i64 0, .int .i64 0, .int .i64 0, .int .i64 0, Value.slice none 0 0] 28, var g61 [.int .i64 0, .int .i64 0, .int .i64 0, .int .i64 0, .int .i64 0, .int .i64 0, .int .i64 0, .int .i64 0, Value.slice none 0 0] 28, var g59 [.int .i64 0, .int .i64 0, .int .i64 0, .int .i64 0, .int .i64 0, .int .i64 0, .int .i64 0, .int .i64 0, Value.slice none 0 0] 28, var g57 [.int .i64 0, .int .i64 0, .int .i64 0, .int .i64 0, .int .i64 0, .int .i64 0, .int .i64 0, .int .i64 0, Value.slice none 0 0] 28, row (Value.slice none 0 0) 3 1 (([] : List Int).map encZ), row v12 3 1 ((Jb.rising js).map encZ), var g3 [.int .i64 ac, .int .i64 1] 35, var g1 [.int .i64 x0, .int .i64 x1, .int .i64 x2, .int .i64 x3, .int .i64 x4, .int .i64 x5, .int .i64 x6, .int .i64 2, v12] 28] rfl RoOk.nil) rfl ?_
                rintro _ _ ⟨_, ⟨rfl, rfl⟩, rfl⟩
                refine MxK.go [0, 1, 2, 3, 4, 5, 7] [0, 1, 2, 3, 4, 5, 6] [var g63 [.int .i64 0, .int .i64 0, .int .i64 0, .int .i64 0, .int .i64 0, .int .i64 0, .int .i64 0, .int .i64 0, Value.slice none 0 0] 28, var g61 [.int .i64 0, .int .i64 0, .int .i64 0, .int .i64 0, .int .i64 0, .int .i64 0, .int .i64 0, .int .i64 0, Value.slice none 0 0] 28, var g59 [.int .i64 0, .int .i64 0, .int .i64 0, .int .i64 0, .int .i64 0, .int .i64 0, .int .i64 0, .int .i64 0, Value.slice none 0 0] 28, var g57 [.int .i64 0, .int .i64 0, .int .i64 0, .int .i64 0, .int .i64 0, .int .i64 0, .int .i64 0, .int .i64 0, Value.slice none 0 0] 28, row (Value.slice none 0 0) 3 1 (([] : List Int).map encZ), row v12 3 1 ((Jb.rising js).map encZ), var g1 [.int .i64 x0, .int .i64 x1, .int .i64 x2, .int .i64 x3, .int .i64 x4, .int .i64 x5, .int .i64 x6, .int .i64 2, v12] 28] (by decide) rfl (by decide) rfl ?_
                refine Mx.p rfl (Pu.pickT rfl (by simp) rfl) rfl ?_
                refine Mx.p rfl (Pu.assign rfl) rfl ?_
                refine Mx.nil ?_
                exact J.ret (Fin.ret (rs := [.tmp 6]) rfl [_] ⟨rfl, trivial⟩ [] (by decide) [] rfl ⟨rfl, rfl⟩)
              ·
                have p66 := of_decide_eq_false h54
                refine J.nilRow 3 1 ?_
                show J _ _ _ [row (Value.slice none 0 0) 3 1 (([] : List Int).map encZ), row v12 3 1 ((Jb.rising js).map encZ), var g3 [.int .i64 ac, .int .i64 1] 35, var g1 [.int .i64 x0, .int .i64 x1, .int .i64 x2, .int .i64 x3, .int .i64 x4, .int .i64 x5, .int .i64 x6, .int .i64 2, v12] 28]
                refine J.region ?_
                refine O.q (Qt.ld rfl (Cel.var 3 rfl) (o := 0) (off := 0) rfl (Cut.agg [.int .i64 x0, .int .i64 x1, .int .i64 x2, .int .i64 x3, .int .i64 x4, .int .i64 x5, .int .i64 x6, .int .i64 2, v12] Try.isAgg28 Try.sizeOf28 rfl rfl)) rfl ?_
                refine O.p (Pu.move rfl) rfl ?_
                refine O.l (Lo.call [.agg #[.int .i64 x0, .int .i64 x1, .int .i64 x2, .int .i64 x3, .int .i64 x4, .int .i64 x5, .int .i64 x6, .int .i64 2, v12], lv] (by exact Try.call12) rfl (jb_DoneNo x0 x1 x2 x3 x4 x5 x6 2 v12 lv l hV13 (by first | omega | (simp; done) | (have h_ := Jb.rising_len (l := js); first | omega | (have h2_ := Jb.without_len (l := Jb.rising js) (c := ac); omega)) | (have h_ := Jb.rising_len (l := l); omega)) (of_decide_eq_false rfl)) [] [0, 1, 2, 3] (by decide) rfl [row (Value.slice none 0 0) 3 1 (([] : List Int).map encZ), row v12 3 1 ((Jb.rising js).map encZ), var g3 [.int .i64 ac, .int .i64 1] 35, var g1 [.int .i64 x0, .int .i64 x1, .int .i64 x2, .int .i64 x3, .int .i64 x4, .int .i64 x5, .int .i64 x6, .int .i64 2, v12] 28] rfl (RoOk.ro 1 rfl [] rfl RoOk.nil)) rfl ?_
                rintro _ _ ⟨_, ⟨rfl, rfl⟩, rfl⟩
                refine O.p (Pu.move rfl) rfl ?_
                refine O.p (Pu.extract rfl rfl) rfl ?_
                refine O.p (Pu.extract rfl rfl) rfl ?_
                refine O.p (Pu.extract rfl rfl) rfl ?_
                refine O.l (Lo.alloc [.int .i64 0, .int .i64 0, .int .i64 0, .int .i64 0, .int .i64 0, .int .i64 0, .int .i64 0, .int .i64 0, Value.slice none 0 0] (by exact Try.zeroValue28) rfl) rfl ?_
                rintro _ _ ⟨g68, rfl, rfl⟩
                refine O.l0 (Lo.store 0 (vs := [.int .i64 0, .int .i64 0, .int .i64 0, .int .i64 0, .int .i64 0, .int .i64 0, .int .i64 0, .int .i64 0, Value.slice none 0 0]) [.int .i64 0, .int .i64 0, .int .i64 0, .int .i64 0, .int .i64 0, .int .i64 0, .int .i64 0, .int .i64 0, Value.slice none 0 0] rfl rfl rfl (by exact Try.sizeOf28) rfl rfl rfl rfl rfl) ?_
                rintro _ _ rfl
                refine O.p (Pu.assign rfl) rfl ?_
                refine O.p (Pu.assign rfl) rfl ?_
                refine O.nil ?_
                refine J.seq ?_
                refine J.region ?_
                refine O.q (Qt.ld rfl (Cel.var 4 rfl) (o := 0) (off := 0) rfl (Cut.agg [.int .i64 x0, .int .i64 x1, .int .i64 x2, .int .i64 x3, .int .i64 x4, .int .i64 x5, .int .i64 x6, .int .i64 2, v12] Try.isAgg28 Try.sizeOf28 rfl rfl)) rfl ?_
                refine O.p (Pu.move rfl) rfl ?_
                refine O.l (Lo.call [.agg #[.int .i64 x0, .int .i64 x1, .int .i64 x2, .int .i64 x3, .int .i64 x4, .int .i64 x5, .int .i64 x6, .int .i64 2, v12], lv] (by exact Try.call32) rfl (r32_DoneNo x0 x1 x2 x3 x4 x5 x6 2 v12 lv l hV13 (of_decide_eq_false rfl)) [] [0, 1, 2, 3, 4] (by decide) rfl [var g68 [.int .i64 0, .int .i64 0, .int .i64 0, .int .i64 0, .int .i64 0, .int .i64 0, .int .i64 0, .int .i64 0, Value.slice none 0 0] 28, row (Value.slice none 0 0) 3 1 (([] : List Int).map encZ), row v12 3 1 ((Jb.rising js).map encZ), var g3 [.int .i64 ac, .int .i64 1] 35, var g1 [.int .i64 x0, .int .i64 x1, .int .i64 x2, .int .i64 x3, .int .i64 x4, .int .i64 x5, .int .i64 x6, .int .i64 2, v12] 28] rfl (RoOk.ro 1 rfl [] rfl RoOk.nil)) rfl ?_
                rintro _ _ ⟨_, ⟨rfl, rfl⟩, rfl⟩
                refine O.p (Pu.move rfl) rfl ?_
                refine O.p (Pu.extract rfl rfl) rfl ?_
                refine O.p (Pu.extract rfl rfl) rfl ?_
                refine O.p (Pu.extract rfl rfl) rfl ?_
                refine O.l (Lo.alloc [.int .i64 0, .int .i64 0, .int .i64 0, .int .i64 0, .int .i64 0, .int .i64 0, .int .i64 0, .int .i64 0, Value.slice none 0 0] (by exact Try.zeroValue28) rfl) rfl ?_
                rintro _ _ ⟨g70, rfl, rfl⟩
                refine O.l0 (Lo.store 0 (vs := [.int .i64 0, .int .i64 0, .int .i64 0, .int .i64 0, .int .i64 0, .int .i64 0, .int .i64 0, .int .i64 0, Value.slice none 0 0]) [.int .i64 0, .int .i64 0, .int .i64 0, .int .i64 0, .int .i64 0, .int .i64 0, .int .i64 0, .int .i64 0, Value.slice none 0 0] rfl rfl rfl (by exact Try.sizeOf28) rfl rfl rfl rfl rfl) ?_
                rintro _ _ rfl
                refine O.p (Pu.assign rfl) rfl ?_
                refine O.p (Pu.assign rfl) rfl ?_
                refine O.nil ?_
                refine J.seq ?_
                refine J.region ?_
                refine O.q (Qt.ld rfl (Cel.var 5 rfl) (o := 0) (off := 0) rfl (Cut.agg [.int .i64 x0, .int .i64 x1, .int .i64 x2, .int .i64 x3, .int .i64 x4, .int .i64 x5, .int .i64 x6, .int .i64 2, v12] Try.isAgg28 Try.sizeOf28 rfl rfl)) rfl ?_
                refine O.p (Pu.fieldAddr (off' := 0) Try.runUnderlying35 rfl Try.sizeOf3 rfl rfl rfl) rfl ?_
                refine O.q (Qt.ld rfl (Cel.var 4 rfl) (o := 0) (off := 0) rfl (Cut.one Try.isAgg3 rfl)) rfl ?_
                refine O.p (Pu.fieldAddr (off' := 1) Try.runUnderlying35 rfl Try.sizeOf3 rfl rfl rfl) rfl ?_
                refine O.q (Qt.ld rfl (Cel.var 4 rfl) (o := 0) (off := 1) rfl (Cut.one Try.isAgg3 rfl)) rfl ?_
                refine O.l (Lo.call [.agg #[.int .i64 x0, .int .i64 x1, .int .i64 x2, .int .i64 x3, .int .i64 x4, .int .i64 x5, .int .i64 x6, .int .i64 2, v12], .int .i64 ac, .int .i64 1] (by exact Try.call14) rfl (jb_Heard x0 x1 x2 x3 x4 x5 x6 v12 (Jb.rising js) ac (by first | omega | (simp; done) | (have h_ := Jb.rising_len (l := js); first | omega | (have h2_ := Jb.without_len (l := Jb.rising js) (c := ac); omega)) | (have h_ := Jb.rising_len (l := l); omega)) (of_decide_eq_true h50) (by exact Jb.rising_up _) (of_decide_eq_false h54)) [] [0, 1, 2, 3, 4, 5] (by decide) rfl [var g70 [.int .i64 0, .int .i64 0, .int .i64 0, .int .i64 0, .int .i64 0, .int .i64 0, .int .i64 0, .int .i64 0, Value.slice none 0 0] 28, var g68 [.int .i64 0, .int .i64 0, .int .i64 0, .int .i64 0, .int .i64 0, .int .i64 0, .int .i64 0, .int .i64 0, Value.slice none 0 0] 28, row (Value.slice none 0 0) 3 1 (([] : List Int).map encZ), row v12 3 1 ((Jb.rising js).map encZ), var g3 [.int .i64 ac, .int .i64 1] 35, var g1 [.int .i64 x0, .int .i64 x1, .int .i64 x2, .int .i64 x3, .int .i64 x4, .int .i64 x5, .int .i64 x6, .int .i64 2, v12] 28] rfl (RoOk.of 3 rfl row_rd [] (by decide) rfl RoOk.nil)) rfl ?_
                rintro _ _ ⟨_, ⟨V71, rfl, rfl⟩, rfl⟩
                refine O.p (Pu.move rfl) rfl ?_
                refine O.p (Pu.extract rfl rfl) rfl ?_
                refine O.p (Pu.extract rfl rfl) rfl ?_
                refine O.l (Lo.alloc [.int .i64 0, .int .i64 0, .int .i64 0, .int .i64 0, .int .i64 0, .int .i64 0, .int .i64 0, .int .i64 0, Value.slice none 0 0] (by exact Try.zeroValue28) rfl) rfl ?_
                rintro _ _ ⟨g73, rfl, rfl⟩
                refine O.one (Src.row 1 rfl) (fun hV74 => ?_)
                refine O.l0 (Lo.store 0 (vs := [.int .i64 x0, .int .i64 x1, .int .i64 x2, .int .i64 x3, .int .i64 x4, .int .i64 x5, .int .i64 x6, .int .i64 2, V71]) [.int .i64 x0, .int .i64 x1, .int .i64 x2, .int .i64 x3, .int .i64 x4, .int .i64 x5, .int .i64 x6, .int .i64 2, V71] rfl rfl rfl (by exact Try.sizeOf28) rfl rfl (by simp only [List.all_cons, List.all_nil, Bool.and_true, hV74] <;> rfl) rfl rfl) ?_
                rintro _ _ rfl
                refine O.p (Pu.assign rfl) rfl ?_
                refine O.nil ?_
                refine J.seq ?_
                refine J.region ?_
                refine O.q (Qt.ld rfl (Cel.var 7 rfl) (o := 0) (off := 0) rfl (Cut.agg [.int .i64 x0, .int .i64 x1, .int .i64 x2, .int .i64 x3, .int .i64 x4, .int .i64 x5, .int .i64 x6, .int .i64 2, v12] Try.isAgg28 Try.sizeOf28 rfl rfl)) rfl ?_
                refine O.p (Pu.fieldAddr (off' := 0) Try.runUnderlying35 rfl Try.sizeOf3 rfl rfl rfl) rfl ?_
                refine O.q (Qt.ld rfl (Cel.var 6 rfl) (o := 0) (off := 0) rfl (Cut.one Try.isAgg3 rfl)) rfl ?_
                refine O.p (Pu.fieldAddr (off' := 1) Try.runUnderlying35 rfl Try.sizeOf3 rfl rfl rfl) rfl ?_
                refine O.q (Qt.ld rfl (Cel.var 6 rfl) (o := 0) (off := 1) rfl (Cut.one Try.isAgg3 rfl)) rfl ?_
                refine O.l (Lo.call [.agg #[.int .i64 x0, .int .i64 x1, .int .i64 x2, .int .i64 x3, .int .i64 x4, .int .i64 x5, .int .i64 x6, .int .i64 2, v12], .int .i64 ac, .int .i64 1] (by exact Try.call33) rfl (r32_Heard x0 x1 x2 x3 x4 x5 x6 v12 (Jb.rising js) ac (by first | omega | (simp; done) | (have h_ := Jb.rising_len (l := js); first | omega | (have h2_ := Jb.without_len (l := Jb.rising js) (c := ac); omega)) | (have h_ := Jb.rising_len (l := l); omega)) (of_decide_eq_true h50) (of_decide_eq_false h54)) [] [0, 1, 2, 3, 4, 5, 6, 7] (by decide) rfl [var g73 [.int .i64 x0, .int .i64 x1, .int .i64 x2, .int .i64 x3, .int .i64 x4, .int .i64 x5, .int .i64 x6, .int .i64 2, V71] 28, row V71 3 1 ((Jb.without (Jb.rising js) ac).map encZ), var g70 [.int .i64 0, .int .i64 0, .int .i64 0, .int .i64 0, .int .i64 0, .int .i64 0, .int .i64 0, .int .i64 0, Value.slice none 0 0] 28, var g68 [.int .i64 0, .int .i64 0, .int .i64 0, .int .i64 0, .int .i64 0, .int .i64 0, .int .i64 0, .int .i64 0, Value.slice none 0 0] 28, row (Value.slice none 0 0) 3 1 (([] : List Int).map encZ), row v12 3 1 ((Jb.rising js).map encZ), var g3 [.int .i64 ac, .int .i64 1] 35, var g1 [.int .i64 x0, .int .i64 x1, .int .i64 x2, .int .i64 x3, .int .i64 x4, .int .i64 x5, .int .i64 x6, .int .i64 2, v12] 28] rfl (RoOk.of 5 rfl row_rd [] (by decide) rfl RoOk.nil)) rfl ?_
                rintro _ _ ⟨_, ⟨V75, rfl, rfl⟩, rfl⟩
                refine O.p (Pu.move rfl) rfl ?_
                refine O.p (Pu.extract rfl rfl) rfl ?_
                refine O.p (Pu.extract rfl rfl) rfl ?_
                refine O.l (Lo.alloc [.int .i64 0, .int .i64 0, .int .i64 0, .int .i64 0, .int .i64 0, .int .i64 0, .int .i64 0, .int .i64 0, Value.slice none 0 0] (by exact Try.zeroValue28) rfl) rfl ?_
                rintro _ _ ⟨g77, rfl, rfl⟩
                refine O.one (Src.row 1 rfl) (fun hV78 => ?_)
                refine O.l0 (Lo.store 0 (vs := [.int .i64 x0, .int .i64 x1, .int .i64 x2, .int .i64 x3, .int .i64 x4, .int .i64 x5, .int .i64 x6, .int .i64 2, V75]) [.int .i64 x0, .int .i64 x1, .int .i64 x2, .int .i64 x3, .int .i64 x4, .int .i64 x5, .int .i64 x6, .int .i64 2, V75] rfl rfl rfl (by exact Try.sizeOf28) rfl rfl (by simp only [List.all_cons, List.all_nil, Bool.and_true, hV78] <;> rfl) rfl rfl) ?_
                rintro _ _ rfl
                refine O.p (Pu.assign rfl) rfl ?_
                refine O.nil ?_
                refine J.seq ?_
                refine J.region ?_
                refine O.q (Qt.ld rfl (Cel.var 9 rfl) (o := 0) (off := 0) rfl (Cut.agg [.int .i64 x0, .int .i64 x1, .int .i64 x2, .int .i64 x3, .int .i64 x4, .int .i64 x5, .int .i64 x6, .int .i64 2, v12] Try.isAgg28 Try.sizeOf28 rfl rfl)) rfl ?_
                refine O.l (Lo.call [.agg #[.int .i64 x0, .int .i64 x1, .int .i64 x2, .int .i64 x3, .int .i64 x4, .int .i64 x5, .int .i64 x6, .int .i64 2, v12]] (by exact Try.call34) rfl (jb_BrokenNo x0 x1 x2 x3 x4 x5 x6 2 v12 hV13 (by decide)) [] [0, 1, 2, 3, 4, 5, 6, 7, 8, 9] (by decide) rfl [var g77 [.int .i64 x0, .int .i64 x1, .int .i64 x2, .int .i64 x3, .int .i64 x4, .int .i64 x5, .int .i64 x6, .int .i64 2, V75] 28, row V75 3 1 ((Jb.without (Jb.rising js) ac).map encZ), var g73 [.int .i64 x0, .int .i64 x1, .int .i64 x2, .int .i64 x3, .int .i64 x4, .int .i64 x5, .int .i64 x6, .int .i64 2, V71] 28, row V71 3 1 ((Jb.without (Jb.rising js) ac).map encZ), var g70 [.int .i64 0, .int .i64 0, .int .i64 0, .int .i64 0, .int .i64 0, .int .i64 0, .int .i64 0, .int .i64 0, Value.slice none 0 0] 28, var g68 [.int .i64 0, .int .i64 0, .int .i64 0, .int .i64 0, .int .i64 0, .int .i64 0, .int .i64 0, .int .i64 0, Value.slice none 0 0] 28, row (Value.slice none 0 0) 3 1 (([] : List Int).map encZ), row v12 3 1 ((Jb.rising js).map encZ), var g3 [.int .i64 ac, .int .i64 1] 35, var g1 [.int .i64 x0, .int .i64 x1, .int .i64 x2, .int .i64 x3, .int .i64 x4, .int .i64 x5, .int .i64 x6, .int .i64 2, v12] 28] rfl RoOk.nil) rfl ?_
                rintro _ _ ⟨_, ⟨rfl, rfl⟩, rfl⟩
                refine O.p (Pu.move rfl) rfl ?_
                refine O.p (Pu.extract rfl rfl) rfl ?_
                refine O.p (Pu.extract rfl rfl) rfl ?_
                refine O.p (Pu.assign rfl) rfl ?_
                refine O.p (Pu.assign rfl) rfl ?_
                refine O.nil ?_
                refine J.seq ?_
                refine J.seq ?_
                refine J.drawMix [(0, false), (1, false), (2, false), (3, false), (4, false), (5, false), (6, false), (7, false), (8, false), (9, false), (10, false), (11, false), (12, false), (13, false), (14, false), (15, false), (16, false), (17, false), (18, false), (19, false), (20, false), (21, false), (22, false), (23, false), (24, false), (25, false), (26, false), (27, false), (28, false), (29, false), (30, false), (31, false), (32, false), (33, false), (34, false), (35, false), (36, false), (37, false), (38, false), (39, false), (40, false), (41, false), (42, false), (43, false), (44, false), (45, false), (46, false), (47, false), (48, false), (49, false), (50, false), (51, false), (52, false), (53, false), (54, false), (55, false), (56, false), (57, false), (58, false), (59, false), (60, false), (61, false), (62, false), (63, false)] [0, 1, 2, 3, 4, 5, 6, 8, 9] [var g77 [.int .i64 x0, .int .i64 x1, .int .i64 x2, .int .i64 x3, .int .i64 x4, .int .i64 x5, .int .i64 x6, .int .i64 2, V75] 28, row V75 3 1 ((Jb.without (Jb.rising js) ac).map encZ), var g73 [.int .i64 x0, .int .i64 x1, .int .i64 x2, .int .i64 x3, .int .i64 x4, .int .i64 x5, .int .i64 x6, .int .i64 2, V71] 28, row V71 3 1 ((Jb.without (Jb.rising js) ac).map encZ), var g70 [.int .i64 0, .int .i64 0, .int .i64 0, .int .i64 0, .int .i64 0, .int .i64 0, .int .i64 0, .int .i64 0, Value.slice none 0 0] 28, var g68 [.int .i64 0, .int .i64 0, .int .i64 0, .int .i64 0, .int .i64 0, .int .i64 0, .int .i64 0, .int .i64 0, Value.slice none 0 0] 28, row (Value.slice none 0 0) 3 1 (([] : List Int).map encZ), var g3 [.int .i64 ac, .int .i64 1] 35, var g1 [.int .i64 x0, .int .i64 x1, .int .i64 x2, .int .i64 x3, .int .i64 x4, .int .i64 x5, .int .i64 x6, .int .i64 2, v12] 28] Try.mixed (by kernel_rfl) (by decide) rfl ?_
                refine Mx.q rfl (Qt.ld rfl (Cel.var 5 rfl) (o := 0) (off := 0) rfl (Cut.agg [.int .i64 0, .int .i64 0, .int .i64 0, .int .i64 0, .int .i64 0, .int .i64 0, .int .i64 0, .int .i64 0, Value.slice none 0 0] Try.isAgg28 Try.sizeOf28 rfl rfl)) rfl ?_
                refine Mx.q rfl (Qt.ld rfl (Cel.var 4 rfl) (o := 0) (off := 0) rfl (Cut.agg [.int .i64 0, .int .i64 0, .int .i64 0, .int .i64 0, .int .i64 0, .int .i64 0, .int .i64 0, .int .i64 0, Value.slice none 0 0] Try.isAgg28 Try.sizeOf28 rfl rfl)) rfl ?_
                refine Mx.call (vs := [.agg #[.int .i64 0, .int .i64 0, .int .i64 0, .int .i64 0, .int .i64 0, .int .i64 0, .int .i64 0, .int .i64 0, Value.slice none 0 0], .agg #[.int .i64 0, .int .i64 0, .int .i64 0, .int .i64 0, .int .i64 0, .int .i64 0, .int .i64 0, .int .i64 0, Value.slice none 0 0]]) (caps := []) rfl (by exact Try.call15) rfl rfl (r32_Same 0 0 0 0 0 0 0 0 (Value.slice none 0 0) ([] : List Int) 0 0 0 0 0 0 0 0 (Value.slice none 0 0) ([] : List Int) (by first | omega | (simp; done) | (have h_ := Jb.rising_len (l := js); first | omega | (have h2_ := Jb.without_len (l := Jb.rising js) (c := ac); omega)) | (have h_ := Jb.rising_len (l := l); omega)) (by first | omega | (simp; done) | (have h_ := Jb.rising_len (l := js); first | omega | (have h2_ := Jb.without_len (l := Jb.rising js) (c := ac); omega)) | (have h_ := Jb.rising_len (l := l); omega))) (fun _ _ h => h) (RoOk.of 6 rfl row_rd [] (by decide) rfl (RoOk.of 6 rfl row_rd [] (by decide) rfl RoOk.nil)) rfl ?_
                refine Mx.p rfl (Pu.not rfl) rfl ?_
                refine Mx.p rfl (Pu.move rfl) rfl ?_
                refine Mx.gq (t := 74) rfl rfl rfl (not_of_true (by simp)) rfl (Pu.qt (Pu.move rfl)) rfl ?_
                refine Mx.gq (t := 74) rfl rfl rfl (not_of_true (by simp)) rfl (Pu.qt (Pu.move rfl)) rfl ?_
                refine Mx.gq (t := 74) rfl rfl rfl (not_of_true (by simp)) rfl (Pu.qt (Pu.neq rfl rfl)) rfl ?_
                refine Mx.p rfl (Pu.pickF rfl (not_of_true (by simp)) rfl) rfl ?_
                refine Mx.p rfl (Pu.move rfl) rfl ?_
                refine Mx.gq (t := 79) rfl rfl rfl rfl rfl (Pu.qt (Pu.move rfl)) rfl ?_
                refine Mx.gq (t := 79) rfl rfl rfl rfl rfl (Pu.qt (Pu.move rfl)) rfl ?_
                refine Mx.gq (t := 79) rfl rfl rfl rfl rfl (Pu.qt (Pu.neq rfl rfl)) rfl ?_
                refine Mx.p rfl (Pu.pickF rfl rfl rfl) rfl ?_
                refine Mx.p rfl (Pu.move rfl) rfl ?_
                refine Mx.gq (t := 84) rfl rfl rfl rfl rfl (Qt.ld rfl (Cel.var 2 rfl) (o := 0) (off := 0) rfl (Cut.agg [.int .i64 x0, .int .i64 x1, .int .i64 x2, .int .i64 x3, .int .i64 x4, .int .i64 x5, .int .i64 x6, .int .i64 2, V71] Try.isAgg28 Try.sizeOf28 rfl rfl)) rfl ?_
                refine Mx.gq (t := 84) rfl rfl rfl rfl rfl (Qt.ld rfl (Cel.var 0 rfl) (o := 0) (off := 0) rfl (Cut.agg [.int .i64 x0, .int .i64 x1, .int .i64 x2, .int .i64 x3, .int .i64 x4, .int .i64 x5, .int .i64 x6, .int .i64 2, V75] Try.isAgg28 Try.sizeOf28 rfl rfl)) rfl ?_
                refine Mx.gcall (vs := [.agg #[.int .i64 x0, .int .i64 x1, .int .i64 x2, .int .i64 x3, .int .i64 x4, .int .i64 x5, .int .i64 x6, .int .i64 2, V71], .agg #[.int .i64 x0, .int .i64 x1, .int .i64 x2, .int .i64 x3, .int .i64 x4, .int .i64 x5, .int .i64 x6, .int .i64 2, V75]]) (caps := []) (t := 84) rfl rfl rfl rfl rfl (by exact Try.call15) rfl rfl (r32_Same x0 x1 x2 x3 x4 x5 x6 2 V71 (Jb.without (Jb.rising js) ac) x0 x1 x2 x3 x4 x5 x6 2 V75 (Jb.without (Jb.rising js) ac) (by first | omega | (simp; done) | (have h_ := Jb.rising_len (l := js); first | omega | (have h2_ := Jb.without_len (l := Jb.rising js) (c := ac); omega)) | (have h_ := Jb.rising_len (l := l); omega)) (by first | omega | (simp; done) | (have h_ := Jb.rising_len (l := js); first | omega | (have h2_ := Jb.without_len (l := Jb.rising js) (c := ac); omega)) | (have h_ := Jb.rising_len (l := l); omega))) (fun _ _ h => h) (RoOk.of 3 rfl row_rd [] (by decide) rfl (RoOk.of 1 rfl row_rd [] (by decide) rfl RoOk.nil)) rfl ?_
                refine Mx.gq (t := 84) rfl rfl rfl rfl rfl (Pu.qt (Pu.not rfl)) rfl ?_
                refine Mx.p rfl (Pu.pickF rfl rfl rfl) rfl ?_
                refine Mx.p rfl (Pu.move rfl) rfl ?_
                refine Mx.gq (t := 90) rfl rfl rfl (not_of_true (by simp)) rfl (Pu.qt (Pu.move rfl)) rfl ?_
                refine Mx.gq (t := 90) rfl rfl rfl (not_of_true (by simp)) rfl (Pu.qt (Pu.move rfl)) rfl ?_
                refine Mx.gq (t := 90) rfl rfl rfl (not_of_true (by simp)) rfl (Pu.qt (Pu.neq rfl rfl)) rfl ?_
                refine Mx.p rfl (Pu.pickF rfl (not_of_true (by simp)) rfl) rfl ?_
                refine Mx.p rfl (Pu.move rfl) rfl ?_
                refine Mx.gq (t := 95) rfl rfl rfl rfl rfl (Qt.ld rfl (Cel.var 8 rfl) (o := 0) (off := 0) rfl (Cut.agg [.int .i64 x0, .int .i64 x1, .int .i64 x2, .int .i64 x3, .int .i64 x4, .int .i64 x5, .int .i64 x6, .int .i64 2, v12] Try.isAgg28 Try.sizeOf28 rfl rfl)) rfl ?_
                refine Mx.gq (t := 95) rfl rfl rfl rfl rfl (Pu.qt (Pu.fieldAddr (off' := 1) Try.runUnderlying35 rfl Try.sizeOf3 rfl rfl rfl)) rfl ?_
                refine Mx.gq (t := 95) rfl rfl rfl rfl rfl (Qt.ld rfl (Cel.var 7 rfl) (o := 0) (off := 1) rfl (Cut.one Try.isAgg3 rfl)) rfl ?_
                refine Mx.gcall (vs := [.agg #[.int .i64 x0, .int .i64 x1, .int .i64 x2, .int .i64 x3, .int .i64 x4, .int .i64 x5, .int .i64 x6, .int .i64 2, v12], .int .i64 1]) (caps := []) (t := 95) rfl rfl rfl rfl rfl (by exact Try.call35) rfl rfl (jb_Ends x0 x1 x2 x3 x4 x5 x6 2 1 v12 hV13) (fun _ _ h => h) RoOk.nil rfl ?_
                refine Mx.gq (t := 95) rfl rfl rfl rfl rfl (Qt.ld rfl (Cel.var 8 rfl) (o := 0) (off := 0) rfl (Cut.agg [.int .i64 x0, .int .i64 x1, .int .i64 x2, .int .i64 x3, .int .i64 x4, .int .i64 x5, .int .i64 x6, .int .i64 2, v12] Try.isAgg28 Try.sizeOf28 rfl rfl)) rfl ?_
                refine Mx.gq (t := 95) rfl rfl rfl rfl rfl (Pu.qt (Pu.fieldAddr (off' := 1) Try.runUnderlying35 rfl Try.sizeOf3 rfl rfl rfl)) rfl ?_
                refine Mx.gq (t := 95) rfl rfl rfl rfl rfl (Qt.ld rfl (Cel.var 7 rfl) (o := 0) (off := 1) rfl (Cut.one Try.isAgg3 rfl)) rfl ?_
                refine Mx.gcall (vs := [.agg #[.int .i64 x0, .int .i64 x1, .int .i64 x2, .int .i64 x3, .int .i64 x4, .int .i64 x5, .int .i64 x6, .int .i64 2, v12], .int .i64 1]) (caps := []) (t := 95) rfl rfl rfl rfl rfl (by exact Try.call36) rfl rfl (r32_Ends x0 x1 x2 x3 x4 x5 x6 2 1 v12 hV13) (fun _ _ h => h) RoOk.nil rfl ?_
                refine Mx.gq (t := 95) rfl rfl rfl rfl rfl (Pu.qt (Pu.neq rfl rfl)) rfl ?_
                refine Mx.p rfl (Pu.pickF rfl rfl rfl) rfl ?_
                refine Mx.p rfl (Pu.move rfl) rfl ?_
                refine Mx.gq (t := 106) rfl rfl rfl (by simp) rfl (Pu.qt (Pu.move rfl)) rfl ?_
                refine Mx.gq (t := 106) rfl rfl rfl (by simp) rfl (Pu.qt (Pu.eql rfl rfl)) rfl ?_
                refine Mx.gq (t := 106) rfl rfl rfl (by simp) rfl (Pu.qt (Pu.fieldAddr (off' := 7) Try.runUnderlying28 rfl Try.sizeOf3 rfl rfl rfl)) rfl ?_
                refine Mx.gq (t := 106) rfl rfl rfl (by simp) rfl (Qt.ld rfl (Cel.var 8 rfl) (o := 0) (off := 7) rfl (Cut.one Try.isAgg3 rfl)) rfl ?_
                refine Mx.gq (t := 106) rfl rfl rfl (by simp) rfl (Pu.qt (Pu.eql rfl rfl)) rfl ?_
                refine Mx.gq (t := 106) rfl rfl rfl (by simp) rfl (Pu.qt (Pu.bneq Try.underlying4 rfl rfl)) rfl ?_
                refine Mx.p rfl (Pu.pickF rfl (by simp) rfl) rfl ?_
                refine Mx.p rfl (Pu.move rfl) rfl ?_
                refine Mx.gq (t := 114) rfl rfl rfl (by decide) rfl (Pu.qt (Pu.move rfl)) rfl ?_
                refine Mx.gq (t := 114) rfl rfl rfl (by decide) rfl (Pu.qt (Pu.eql rfl rfl)) rfl ?_
                refine Mx.gq (t := 114) rfl rfl rfl (by decide) rfl (Pu.qt (Pu.move rfl)) rfl ?_
                refine Mx.gskip (t := 117) rfl rfl rfl (no_bool (by decide)) rfl rfl ?_
                refine Mx.gskip (t := 117) rfl rfl rfl (no_bool (by decide)) rfl rfl ?_
                refine Mx.gq (t := 114) rfl rfl rfl (by decide) rfl (Pu.qt (Pu.pickF rfl rfl rfl)) rfl ?_
                refine Mx.p rfl (Pu.pickF rfl (by decide) rfl) rfl ?_
                refine Mx.p rfl (Pu.move rfl) rfl ?_
                refine Mx.gq (t := 122) rfl rfl rfl rfl rfl (Pu.qt (Pu.move rfl)) rfl ?_
                refine Mx.gq (t := 122) rfl rfl rfl rfl rfl (Pu.qt (Pu.neq rfl rfl)) rfl ?_
                refine Mx.gq (t := 122) rfl rfl rfl rfl rfl (Pu.qt (Pu.move rfl)) rfl ?_
                refine Mx.gq (t := 125) rfl rfl rfl rfl rfl (Pu.qt (Pu.move rfl)) rfl ?_
                refine Mx.gq (t := 125) rfl rfl rfl rfl rfl (Pu.qt (Pu.neq rfl rfl)) rfl ?_
                refine Mx.gq (t := 125) rfl rfl rfl rfl rfl (Pu.qt (Pu.move rfl)) rfl ?_
                refine Mx.gq (t := 128) rfl rfl rfl rfl rfl (Pu.qt (Pu.move rfl)) rfl ?_
                refine Mx.gq (t := 128) rfl rfl rfl rfl rfl (Pu.qt (Pu.neq rfl rfl)) rfl ?_
                refine Mx.gq (t := 125) rfl rfl rfl rfl rfl (Pu.qt (Pu.pickF rfl rfl rfl)) rfl ?_
                refine Mx.gq (t := 122) rfl rfl rfl rfl rfl (Pu.qt (Pu.pickT rfl rfl rfl)) rfl ?_
                refine Mx.p rfl (Pu.pickF rfl rfl rfl) rfl ?_
                refine Mx.nil ?_
                refine J.condF rfl rfl ?_
                refine J.skip ?_
                refine J.seq ?_
                refine J.drawMix [(0, false), (1, false), (2, false), (3, false), (4, false), (5, false), (6, false), (7, false), (8, false), (9, false), (10, false), (11, false), (12, false), (13, false), (14, false), (15, false), (16, false), (17, false), (18, false), (19, false), (20, false), (21, false), (22, true), (23, false), (24, false)] [0, 1, 2, 3, 4, 5, 6, 7, 9] [var g77 [.int .i64 x0, .int .i64 x1, .int .i64 x2, .int .i64 x3, .int .i64 x4, .int .i64 x5, .int .i64 x6, .int .i64 2, V75] 28, row V75 3 1 ((Jb.without (Jb.rising js) ac).map encZ), var g73 [.int .i64 x0, .int .i64 x1, .int .i64 x2, .int .i64 x3, .int .i64 x4, .int .i64 x5, .int .i64 x6, .int .i64 2, V71] 28, row V71 3 1 ((Jb.without (Jb.rising js) ac).map encZ), var g70 [.int .i64 0, .int .i64 0, .int .i64 0, .int .i64 0, .int .i64 0, .int .i64 0, .int .i64 0, .int .i64 0, Value.slice none 0 0] 28, var g68 [.int .i64 0, .int .i64 0, .int .i64 0, .int .i64 0, .int .i64 0, .int .i64 0, .int .i64 0, .int .i64 0, Value.slice none 0 0] 28, row (Value.slice none 0 0) 3 1 (([] : List Int).map encZ), row v12 3 1 ((Jb.rising js).map encZ), var g1 [.int .i64 x0, .int .i64 x1, .int .i64 x2, .int .i64 x3, .int .i64 x4, .int .i64 x5, .int .i64 x6, .int .i64 2, v12] 28] Try.mixed (by kernel_rfl) (by decide) rfl ?_
                refine Mx.q rfl (Qt.ld rfl (Cel.var 5 rfl) (o := 0) (off := 0) rfl (Cut.agg [.int .i64 0, .int .i64 0, .int .i64 0, .int .i64 0, .int .i64 0, .int .i64 0, .int .i64 0, .int .i64 0, Value.slice none 0 0] Try.isAgg28 Try.sizeOf28 rfl rfl)) rfl ?_
                refine Mx.q rfl (Qt.ld rfl (Cel.var 2 rfl) (o := 0) (off := 0) rfl (Cut.agg [.int .i64 x0, .int .i64 x1, .int .i64 x2, .int .i64 x3, .int .i64 x4, .int .i64 x5, .int .i64 x6, .int .i64 2, V71] Try.isAgg28 Try.sizeOf28 rfl rfl)) rfl ?_
                refine Mx.call (vs := [.agg #[.int .i64 0, .int .i64 0, .int .i64 0, .int .i64 0, .int .i64 0, .int .i64 0, .int .i64 0, .int .i64 0, Value.slice none 0 0], .agg #[.int .i64 x0, .int .i64 x1, .int .i64 x2, .int .i64 x3, .int .i64 x4, .int .i64 x5, .int .i64 x6, .int .i64 2, V71]]) (caps := []) rfl (by exact Try.call37) rfl rfl (jb_Same 0 0 0 0 0 0 0 0 (Value.slice none 0 0) ([] : List Int) x0 x1 x2 x3 x4 x5 x6 2 V71 (Jb.without (Jb.rising js) ac) (by first | omega | (simp; done) | (have h_ := Jb.rising_len (l := js); first | omega | (have h2_ := Jb.without_len (l := Jb.rising js) (c := ac); omega)) | (have h_ := Jb.rising_len (l := l); omega)) (by first | omega | (simp; done) | (have h_ := Jb.rising_len (l := js); first | omega | (have h2_ := Jb.without_len (l := Jb.rising js) (c := ac); omega)) | (have h_ := Jb.rising_len (l := l); omega))) (fun _ _ h => h) (RoOk.of 6 rfl row_rd [] (by decide) rfl (RoOk.of 3 rfl row_rd [] (by decide) rfl RoOk.nil)) rfl ?_
                refine Mx.q rfl (Qt.ld rfl (Cel.var 4 rfl) (o := 0) (off := 0) rfl (Cut.agg [.int .i64 0, .int .i64 0, .int .i64 0, .int .i64 0, .int .i64 0, .int .i64 0, .int .i64 0, .int .i64 0, Value.slice none 0 0] Try.isAgg28 Try.sizeOf28 rfl rfl)) rfl ?_
                refine Mx.q rfl (Qt.ld rfl (Cel.var 0 rfl) (o := 0) (off := 0) rfl (Cut.agg [.int .i64 x0, .int .i64 x1, .int .i64 x2, .int .i64 x3, .int .i64 x4, .int .i64 x5, .int .i64 x6, .int .i64 2, V75] Try.isAgg28 Try.sizeOf28 rfl rfl)) rfl ?_
                refine Mx.call (vs := [.agg #[.int .i64 0, .int .i64 0, .int .i64 0, .int .i64 0, .int .i64 0, .int .i64 0, .int .i64 0, .int .i64 0, Value.slice none 0 0], .agg #[.int .i64 x0, .int .i64 x1, .int .i64 x2, .int .i64 x3, .int .i64 x4, .int .i64 x5, .int .i64 x6, .int .i64 2, V75]]) (caps := []) rfl (by exact Try.call15) rfl rfl (r32_Same 0 0 0 0 0 0 0 0 (Value.slice none 0 0) ([] : List Int) x0 x1 x2 x3 x4 x5 x6 2 V75 (Jb.without (Jb.rising js) ac) (by first | omega | (simp; done) | (have h_ := Jb.rising_len (l := js); first | omega | (have h2_ := Jb.without_len (l := Jb.rising js) (c := ac); omega)) | (have h_ := Jb.rising_len (l := l); omega)) (by first | omega | (simp; done) | (have h_ := Jb.rising_len (l := js); first | omega | (have h2_ := Jb.without_len (l := Jb.rising js) (c := ac); omega)) | (have h_ := Jb.rising_len (l := l); omega))) (fun _ _ h => h) (RoOk.of 6 rfl row_rd [] (by decide) rfl (RoOk.of 1 rfl row_rd [] (by decide) rfl RoOk.nil)) rfl ?_
                refine Mx.p rfl (Pu.beql Try.underlying4 rfl rfl) rfl ?_
                refine Mx.p rfl (Pu.move rfl) rfl ?_
                refine Mx.gq (t := 141) rfl rfl rfl (by simp) rfl (Qt.ld rfl (Cel.var 8 rfl) (o := 0) (off := 0) rfl (Cut.agg [.int .i64 x0, .int .i64 x1, .int .i64 x2, .int .i64 x3, .int .i64 x4, .int .i64 x5, .int .i64 x6, .int .i64 2, v12] Try.isAgg28 Try.sizeOf28 rfl rfl)) rfl ?_
                refine Mx.gq (t := 141) rfl rfl rfl (by simp) rfl (Qt.ld rfl (Cel.var 8 rfl) (o := 0) (off := 0) rfl (Cut.agg [.int .i64 x0, .int .i64 x1, .int .i64 x2, .int .i64 x3, .int .i64 x4, .int .i64 x5, .int .i64 x6, .int .i64 2, v12] Try.isAgg28 Try.sizeOf28 rfl rfl)) rfl ?_
                refine Mx.gcall (vs := [.agg #[.int .i64 x0, .int .i64 x1, .int .i64 x2, .int .i64 x3, .int .i64 x4, .int .i64 x5, .int .i64 x6, .int .i64 2, v12], .agg #[.int .i64 x0, .int .i64 x1, .int .i64 x2, .int .i64 x3, .int .i64 x4, .int .i64 x5, .int .i64 x6, .int .i64 2, v12]]) (caps := []) (t := 141) rfl rfl rfl (by simp) rfl (by exact Try.call37) rfl rfl (jb_Same x0 x1 x2 x3 x4 x5 x6 2 v12 (Jb.rising js) x0 x1 x2 x3 x4 x5 x6 2 v12 (Jb.rising js) (by first | omega | (simp; done) | (have h_ := Jb.rising_len (l := js); first | omega | (have h2_ := Jb.without_len (l := Jb.rising js) (c := ac); omega)) | (have h_ := Jb.rising_len (l := l); omega)) (by first | omega | (simp; done) | (have h_ := Jb.rising_len (l := js); first | omega | (have h2_ := Jb.without_len (l := Jb.rising js) (c := ac); omega)) | (have h_ := Jb.rising_len (l := l); omega))) (fun _ _ h => h) (RoOk.of 7 rfl row_rd [] (by decide) rfl (RoOk.of 7 rfl row_rd [] (by decide) rfl RoOk.nil)) rfl ?_
                refine Mx.p rfl (Pu.pickT rfl (by simp) rfl) rfl ?_
                refine Mx.p rfl (Pu.move rfl) rfl ?_
                refine Mx.gq (t := 146) rfl rfl rfl (by simp) rfl (Pu.qt (Pu.fieldAddr (off' := 0) Try.runUnderlying28 rfl Try.sizeOf23 rfl rfl rfl)) rfl ?_
                refine Mx.gq (t := 146) rfl rfl rfl (by simp) rfl (Qt.ld rfl (Cel.var 8 rfl) (o := 0) (off := 0) rfl (Cut.agg [.int .i64 x0, .int .i64 x1, .int .i64 x2, .int .i64 x3, .int .i64 x4, .int .i64 x5, .int .i64 x6] Try.isAgg23 Try.sizeOf23 rfl rfl)) rfl ?_
                refine Mx.gcall (vs := [.agg #[.int .i64 x0, .int .i64 x1, .int .i64 x2, .int .i64 x3, .int .i64 x4, .int .i64 x5, .int .i64 x6]]) (caps := []) (t := 146) rfl rfl rfl (by simp) rfl (by exact Try.call13) rfl rfl (jb_New x0 x1 x2 x3 x4 x5 x6) (fun _ _ h => h) RoOk.nil rfl ?_
                refine Mx.gq (t := 146) rfl rfl rfl (by simp) rfl (Pu.qt (Pu.fieldAddr (off' := 0) Try.runUnderlying28 rfl Try.sizeOf23 rfl rfl rfl)) rfl ?_
                refine Mx.gq (t := 146) rfl rfl rfl (by simp) rfl (Qt.ld rfl (Cel.var 8 rfl) (o := 0) (off := 0) rfl (Cut.agg [.int .i64 x0, .int .i64 x1, .int .i64 x2, .int .i64 x3, .int .i64 x4, .int .i64 x5, .int .i64 x6] Try.isAgg23 Try.sizeOf23 rfl rfl)) rfl ?_
                refine Mx.gq (t := 146) rfl rfl rfl (by simp) rfl (Pu.qt (Pu.build [(0, .agg #[.int .i64 x0, .int .i64 x1, .int .i64 x2, .int .i64 x3, .int .i64 x4, .int .i64 x5, .int .i64 x6]), (1, .int .i64 1)] [.int .i64 x0, .int .i64 x1, .int .i64 x2, .int .i64 x3, .int .i64 x4, .int .i64 x5, .int .i64 x6, .int .i64 1, Value.slice none 0 0] #[(0, 7), (7, 1), (8, 1)] Try.runUnderlying28 Try.zeroValue28 (places28 Try.underlying28) rfl (by kernel_rfl))) rfl ?_
                refine Mx.gcall (vs := [.agg #[.int .i64 x0, .int .i64 x1, .int .i64 x2, .int .i64 x3, .int .i64 x4, .int .i64 x5, .int .i64 x6, .int .i64 1, Value.slice none 0 0], .agg #[.int .i64 x0, .int .i64 x1, .int .i64 x2, .int .i64 x3, .int .i64 x4, .int .i64 x5, .int .i64 x6, .int .i64 1, Value.slice none 0 0]]) (caps := []) (t := 146) rfl rfl rfl (by simp) rfl (by exact Try.call15) rfl rfl (r32_Same x0 x1 x2 x3 x4 x5 x6 1 (Value.slice none 0 0) ([] : List Int) x0 x1 x2 x3 x4 x5 x6 1 (Value.slice none 0 0) ([] : List Int) (by first | omega | (simp; done) | (have h_ := Jb.rising_len (l := js); first | omega | (have h2_ := Jb.without_len (l := Jb.rising js) (c := ac); omega)) | (have h_ := Jb.rising_len (l := l); omega)) (by first | omega | (simp; done) | (have h_ := Jb.rising_len (l := js); first | omega | (have h2_ := Jb.without_len (l := Jb.rising js) (c := ac); omega)) | (have h_ := Jb.rising_len (l := l); omega))) (fun _ _ h => h) (RoOk.of 6 rfl row_rd [] (by decide) rfl (RoOk.of 6 rfl row_rd [] (by decide) rfl RoOk.nil)) rfl ?_
                refine Mx.p rfl (Pu.pickT rfl (by simp) rfl) rfl ?_
                refine Mx.p rfl (Pu.move rfl) rfl ?_
                refine Mx.gl (t := 155) rfl rfl rfl (by simp) rfl (Lo.call [] (by exact Try.call11) rfl law32_awake [] [0, 1, 2, 3, 4, 5, 6, 7, 8, 9] (by decide) rfl [var g77 [.int .i64 x0, .int .i64 x1, .int .i64 x2, .int .i64 x3, .int .i64 x4, .int .i64 x5, .int .i64 x6, .int .i64 2, V75] 28, row V75 3 1 ((Jb.without (Jb.rising js) ac).map encZ), var g73 [.int .i64 x0, .int .i64 x1, .int .i64 x2, .int .i64 x3, .int .i64 x4, .int .i64 x5, .int .i64 x6, .int .i64 2, V71] 28, row V71 3 1 ((Jb.without (Jb.rising js) ac).map encZ), var g70 [.int .i64 0, .int .i64 0, .int .i64 0, .int .i64 0, .int .i64 0, .int .i64 0, .int .i64 0, .int .i64 0, Value.slice none 0 0] 28, var g68 [.int .i64 0, .int .i64 0, .int .i64 0, .int .i64 0, .int .i64 0, .int .i64 0, .int .i64 0, .int .i64 0, Value.slice none 0 0] 28, row (Value.slice none 0 0) 3 1 (([] : List Int).map encZ), row v12 3 1 ((Jb.rising js).map encZ), var g3 [.int .i64 ac, .int .i64 1] 35, var g1 [.int .i64 x0, .int .i64 x1, .int .i64 x2, .int .i64 x3, .int .i64 x4, .int .i64 x5, .int .i64 x6, .int .i64 2, v12] 28] rfl RoOk.nil) rfl ?_
                rintro _ _ ⟨_, ⟨rfl, rfl⟩, rfl⟩
                refine MxK.go [0, 1, 2, 3, 4, 5, 6, 7, 9] [0, 1, 2, 3, 4, 5, 6, 7, 8] [var g77 [.int .i64 x0, .int .i64 x1, .int .i64 x2, .int .i64 x3, .int .i64 x4, .int .i64 x5, .int .i64 x6, .int .i64 2, V75] 28, row V75 3 1 ((Jb.without (Jb.rising js) ac).map encZ), var g73 [.int .i64 x0, .int .i64 x1, .int .i64 x2, .int .i64 x3, .int .i64 x4, .int .i64 x5, .int .i64 x6, .int .i64 2, V71] 28, row V71 3 1 ((Jb.without (Jb.rising js) ac).map encZ), var g70 [.int .i64 0, .int .i64 0, .int .i64 0, .int .i64 0, .int .i64 0, .int .i64 0, .int .i64 0, .int .i64 0, Value.slice none 0 0] 28, var g68 [.int .i64 0, .int .i64 0, .int .i64 0, .int .i64 0, .int .i64 0, .int .i64 0, .int .i64 0, .int .i64 0, Value.slice none 0 0] 28, row (Value.slice none 0 0) 3 1 (([] : List Int).map encZ), row v12 3 1 ((Jb.rising js).map encZ), var g1 [.int .i64 x0, .int .i64 x1, .int .i64 x2, .int .i64 x3, .int .i64 x4, .int .i64 x5, .int .i64 x6, .int .i64 2, v12] 28] (by decide) rfl (by decide) rfl ?_
                refine Mx.p rfl (Pu.pickT rfl (by simp) rfl) rfl ?_
                refine Mx.p rfl (Pu.assign rfl) rfl ?_
                refine Mx.nil ?_
                exact J.ret (Fin.ret (rs := [.tmp 6]) rfl [_] ⟨rfl, trivial⟩ [] (by decide) [] rfl ⟨rfl, rfl⟩)
            ·
              have p81 := of_decide_eq_false h52
              refine J.nilRow 3 1 ?_
              show J _ _ _ [row (Value.slice none 0 0) 3 1 (([] : List Int).map encZ), row v12 3 1 ((Jb.rising js).map encZ), var g3 [.int .i64 ac, .int .i64 cd] 35, var g1 [.int .i64 x0, .int .i64 x1, .int .i64 x2, .int .i64 x3, .int .i64 x4, .int .i64 x5, .int .i64 x6, .int .i64 2, v12] 28]
              refine J.region ?_
              refine O.q (Qt.ld rfl (Cel.var 3 rfl) (o := 0) (off := 0) rfl (Cut.agg [.int .i64 x0, .int .i64 x1, .int .i64 x2, .int .i64 x3, .int .i64 x4, .int .i64 x5, .int .i64 x6, .int .i64 2, v12] Try.isAgg28 Try.sizeOf28 rfl rfl)) rfl ?_
              refine O.p (Pu.move rfl) rfl ?_
              refine O.l (Lo.call [.agg #[.int .i64 x0, .int .i64 x1, .int .i64 x2, .int .i64 x3, .int .i64 x4, .int .i64 x5, .int .i64 x6, .int .i64 2, v12], lv] (by exact Try.call12) rfl (jb_DoneNo x0 x1 x2 x3 x4 x5 x6 2 v12 lv l hV13 (by first | omega | (simp; done) | (have h_ := Jb.rising_len (l := js); first | omega | (have h2_ := Jb.without_len (l := Jb.rising js) (c := ac); omega)) | (have h_ := Jb.rising_len (l := l); omega)) (of_decide_eq_false rfl)) [] [0, 1, 2, 3] (by decide) rfl [row (Value.slice none 0 0) 3 1 (([] : List Int).map encZ), row v12 3 1 ((Jb.rising js).map encZ), var g3 [.int .i64 ac, .int .i64 cd] 35, var g1 [.int .i64 x0, .int .i64 x1, .int .i64 x2, .int .i64 x3, .int .i64 x4, .int .i64 x5, .int .i64 x6, .int .i64 2, v12] 28] rfl (RoOk.ro 1 rfl [] rfl RoOk.nil)) rfl ?_
              rintro _ _ ⟨_, ⟨rfl, rfl⟩, rfl⟩
              refine O.p (Pu.move rfl) rfl ?_
              refine O.p (Pu.extract rfl rfl) rfl ?_
              refine O.p (Pu.extract rfl rfl) rfl ?_
              refine O.p (Pu.extract rfl rfl) rfl ?_
              refine O.l (Lo.alloc [.int .i64 0, .int .i64 0, .int .i64 0, .int .i64 0, .int .i64 0, .int .i64 0, .int .i64 0, .int .i64 0, Value.slice none 0 0] (by exact Try.zeroValue28) rfl) rfl ?_
              rintro _ _ ⟨g83, rfl, rfl⟩
              refine O.l0 (Lo.store 0 (vs := [.int .i64 0, .int .i64 0, .int .i64 0, .int .i64 0, .int .i64 0, .int .i64 0, .int .i64 0, .int .i64 0, Value.slice none 0 0]) [.int .i64 0, .int .i64 0, .int .i64 0, .int .i64 0, .int .i64 0, .int .i64 0, .int .i64 0, .int .i64 0, Value.slice none 0 0] rfl rfl rfl (by exact Try.sizeOf28) rfl rfl rfl rfl rfl) ?_
              rintro _ _ rfl
              refine O.p (Pu.assign rfl) rfl ?_
              refine O.p (Pu.assign rfl) rfl ?_
              refine O.nil ?_
              refine J.seq ?_
              refine J.region ?_
              refine O.q (Qt.ld rfl (Cel.var 4 rfl) (o := 0) (off := 0) rfl (Cut.agg [.int .i64 x0, .int .i64 x1, .int .i64 x2, .int .i64 x3, .int .i64 x4, .int .i64 x5, .int .i64 x6, .int .i64 2, v12] Try.isAgg28 Try.sizeOf28 rfl rfl)) rfl ?_
              refine O.p (Pu.move rfl) rfl ?_
              refine O.l (Lo.call [.agg #[.int .i64 x0, .int .i64 x1, .int .i64 x2, .int .i64 x3, .int .i64 x4, .int .i64 x5, .int .i64 x6, .int .i64 2, v12], lv] (by exact Try.call32) rfl (r32_DoneNo x0 x1 x2 x3 x4 x5 x6 2 v12 lv l hV13 (of_decide_eq_false rfl)) [] [0, 1, 2, 3, 4] (by decide) rfl [var g83 [.int .i64 0, .int .i64 0, .int .i64 0, .int .i64 0, .int .i64 0, .int .i64 0, .int .i64 0, .int .i64 0, Value.slice none 0 0] 28, row (Value.slice none 0 0) 3 1 (([] : List Int).map encZ), row v12 3 1 ((Jb.rising js).map encZ), var g3 [.int .i64 ac, .int .i64 cd] 35, var g1 [.int .i64 x0, .int .i64 x1, .int .i64 x2, .int .i64 x3, .int .i64 x4, .int .i64 x5, .int .i64 x6, .int .i64 2, v12] 28] rfl (RoOk.ro 1 rfl [] rfl RoOk.nil)) rfl ?_
              rintro _ _ ⟨_, ⟨rfl, rfl⟩, rfl⟩
              refine O.p (Pu.move rfl) rfl ?_
              refine O.p (Pu.extract rfl rfl) rfl ?_
              refine O.p (Pu.extract rfl rfl) rfl ?_
              refine O.p (Pu.extract rfl rfl) rfl ?_
              refine O.l (Lo.alloc [.int .i64 0, .int .i64 0, .int .i64 0, .int .i64 0, .int .i64 0, .int .i64 0, .int .i64 0, .int .i64 0, Value.slice none 0 0] (by exact Try.zeroValue28) rfl) rfl ?_
              rintro _ _ ⟨g85, rfl, rfl⟩
              refine O.l0 (Lo.store 0 (vs := [.int .i64 0, .int .i64 0, .int .i64 0, .int .i64 0, .int .i64 0, .int .i64 0, .int .i64 0, .int .i64 0, Value.slice none 0 0]) [.int .i64 0, .int .i64 0, .int .i64 0, .int .i64 0, .int .i64 0, .int .i64 0, .int .i64 0, .int .i64 0, Value.slice none 0 0] rfl rfl rfl (by exact Try.sizeOf28) rfl rfl rfl rfl rfl) ?_
              rintro _ _ rfl
              refine O.p (Pu.assign rfl) rfl ?_
              refine O.p (Pu.assign rfl) rfl ?_
              refine O.nil ?_
              refine J.seq ?_
              refine J.region ?_
              refine O.q (Qt.ld rfl (Cel.var 5 rfl) (o := 0) (off := 0) rfl (Cut.agg [.int .i64 x0, .int .i64 x1, .int .i64 x2, .int .i64 x3, .int .i64 x4, .int .i64 x5, .int .i64 x6, .int .i64 2, v12] Try.isAgg28 Try.sizeOf28 rfl rfl)) rfl ?_
              refine O.p (Pu.fieldAddr (off' := 0) Try.runUnderlying35 rfl Try.sizeOf3 rfl rfl rfl) rfl ?_
              refine O.q (Qt.ld rfl (Cel.var 4 rfl) (o := 0) (off := 0) rfl (Cut.one Try.isAgg3 rfl)) rfl ?_
              refine O.p (Pu.fieldAddr (off' := 1) Try.runUnderlying35 rfl Try.sizeOf3 rfl rfl rfl) rfl ?_
              refine O.q (Qt.ld rfl (Cel.var 4 rfl) (o := 0) (off := 1) rfl (Cut.one Try.isAgg3 rfl)) rfl ?_
              refine O.l (Lo.call [.agg #[.int .i64 x0, .int .i64 x1, .int .i64 x2, .int .i64 x3, .int .i64 x4, .int .i64 x5, .int .i64 x6, .int .i64 2, v12], .int .i64 ac, .int .i64 cd] (by exact Try.call14) rfl (jb_HeardBad x0 x1 x2 x3 x4 x5 x6 v12 (Jb.rising js) ac cd (by first | omega | (simp; done) | (have h_ := Jb.rising_len (l := js); first | omega | (have h2_ := Jb.without_len (l := Jb.rising js) (c := ac); omega)) | (have h_ := Jb.rising_len (l := l); omega)) (of_decide_eq_true h50) (of_decide_eq_false h52)) [] [0, 1, 2, 3, 4, 5] (by decide) rfl [var g85 [.int .i64 0, .int .i64 0, .int .i64 0, .int .i64 0, .int .i64 0, .int .i64 0, .int .i64 0, .int .i64 0, Value.slice none 0 0] 28, var g83 [.int .i64 0, .int .i64 0, .int .i64 0, .int .i64 0, .int .i64 0, .int .i64 0, .int .i64 0, .int .i64 0, Value.slice none 0 0] 28, row (Value.slice none 0 0) 3 1 (([] : List Int).map encZ), row v12 3 1 ((Jb.rising js).map encZ), var g3 [.int .i64 ac, .int .i64 cd] 35, var g1 [.int .i64 x0, .int .i64 x1, .int .i64 x2, .int .i64 x3, .int .i64 x4, .int .i64 x5, .int .i64 x6, .int .i64 2, v12] 28] rfl (RoOk.of 3 rfl row_rd [] (by decide) rfl RoOk.nil)) rfl ?_
              rintro _ _ ⟨_, ⟨rfl, rfl⟩, rfl⟩
              refine O.p (Pu.move rfl) rfl ?_
              refine O.p (Pu.extract rfl rfl) rfl ?_
              refine O.p (Pu.extract rfl rfl) rfl ?_
              refine O.l (Lo.alloc [.int .i64 0, .int .i64 0, .int .i64 0, .int .i64 0, .int .i64 0, .int .i64 0, .int .i64 0, .int .i64 0, Value.slice none 0 0] (by exact Try.zeroValue28) rfl) rfl ?_
              rintro _ _ ⟨g87, rfl, rfl⟩
              refine O.l0 (Lo.store 0 (vs := [.int .i64 0, .int .i64 0, .int .i64 0, .int .i64 0, .int .i64 0, .int .i64 0, .int .i64 0, .int .i64 0, Value.slice none 0 0]) [.int .i64 0, .int .i64 0, .int .i64 0, .int .i64 0, .int .i64 0, .int .i64 0, .int .i64 0, .int .i64 0, Value.slice none 0 0] rfl rfl rfl (by exact Try.sizeOf28) rfl rfl rfl rfl rfl) ?_
              rintro _ _ rfl
              refine O.p (Pu.assign rfl) rfl ?_
              refine O.nil ?_
              refine J.seq ?_
              refine J.region ?_
              refine O.q (Qt.ld rfl (Cel.var 6 rfl) (o := 0) (off := 0) rfl (Cut.agg [.int .i64 x0, .int .i64 x1, .int .i64 x2, .int .i64 x3, .int .i64 x4, .int .i64 x5, .int .i64 x6, .int .i64 2, v12] Try.isAgg28 Try.sizeOf28 rfl rfl)) rfl ?_
              refine O.p (Pu.fieldAddr (off' := 0) Try.runUnderlying35 rfl Try.sizeOf3 rfl rfl rfl) rfl ?_
              refine O.q (Qt.ld rfl (Cel.var 5 rfl) (o := 0) (off := 0) rfl (Cut.one Try.isAgg3 rfl)) rfl ?_
              refine O.p (Pu.fieldAddr (off' := 1) Try.runUnderlying35 rfl Try.sizeOf3 rfl rfl rfl) rfl ?_
              refine O.q (Qt.ld rfl (Cel.var 5 rfl) (o := 0) (off := 1) rfl (Cut.one Try.isAgg3 rfl)) rfl ?_
              refine O.l (Lo.call [.agg #[.int .i64 x0, .int .i64 x1, .int .i64 x2, .int .i64 x3, .int .i64 x4, .int .i64 x5, .int .i64 x6, .int .i64 2, v12], .int .i64 ac, .int .i64 cd] (by exact Try.call33) rfl (r32_HeardBad x0 x1 x2 x3 x4 x5 x6 v12 (Jb.rising js) ac cd (by first | omega | (simp; done) | (have h_ := Jb.rising_len (l := js); first | omega | (have h2_ := Jb.without_len (l := Jb.rising js) (c := ac); omega)) | (have h_ := Jb.rising_len (l := l); omega)) (of_decide_eq_true h50) (of_decide_eq_false h52)) [] [0, 1, 2, 3, 4, 5, 6] (by decide) rfl [var g87 [.int .i64 0, .int .i64 0, .int .i64 0, .int .i64 0, .int .i64 0, .int .i64 0, .int .i64 0, .int .i64 0, Value.slice none 0 0] 28, var g85 [.int .i64 0, .int .i64 0, .int .i64 0, .int .i64 0, .int .i64 0, .int .i64 0, .int .i64 0, .int .i64 0, Value.slice none 0 0] 28, var g83 [.int .i64 0, .int .i64 0, .int .i64 0, .int .i64 0, .int .i64 0, .int .i64 0, .int .i64 0, .int .i64 0, Value.slice none 0 0] 28, row (Value.slice none 0 0) 3 1 (([] : List Int).map encZ), row v12 3 1 ((Jb.rising js).map encZ), var g3 [.int .i64 ac, .int .i64 cd] 35, var g1 [.int .i64 x0, .int .i64 x1, .int .i64 x2, .int .i64 x3, .int .i64 x4, .int .i64 x5, .int .i64 x6, .int .i64 2, v12] 28] rfl (RoOk.of 4 rfl row_rd [] (by decide) rfl RoOk.nil)) rfl ?_
              rintro _ _ ⟨_, ⟨rfl, rfl⟩, rfl⟩
              refine O.p (Pu.move rfl) rfl ?_
              refine O.p (Pu.extract rfl rfl) rfl ?_
              refine O.p (Pu.extract rfl rfl) rfl ?_
              refine O.l (Lo.alloc [.int .i64 0, .int .i64 0, .int .i64 0, .int .i64 0, .int .i64 0, .int .i64 0, .int .i64 0, .int .i64 0, Value.slice none 0 0] (by exact Try.zeroValue28) rfl) rfl ?_
              rintro _ _ ⟨g89, rfl, rfl⟩
              refine O.l0 (Lo.store 0 (vs := [.int .i64 0, .int .i64 0, .int .i64 0, .int .i64 0, .int .i64 0, .int .i64 0, .int .i64 0, .int .i64 0, Value.slice none 0 0]) [.int .i64 0, .int .i64 0, .int .i64 0, .int .i64 0, .int .i64 0, .int .i64 0, .int .i64 0, .int .i64 0, Value.slice none 0 0] rfl rfl rfl (by exact Try.sizeOf28) rfl rfl rfl rfl rfl) ?_
              rintro _ _ rfl
              refine O.p (Pu.assign rfl) rfl ?_
              refine O.nil ?_
              refine J.seq ?_
              refine J.region ?_
              refine O.q (Qt.ld rfl (Cel.var 7 rfl) (o := 0) (off := 0) rfl (Cut.agg [.int .i64 x0, .int .i64 x1, .int .i64 x2, .int .i64 x3, .int .i64 x4, .int .i64 x5, .int .i64 x6, .int .i64 2, v12] Try.isAgg28 Try.sizeOf28 rfl rfl)) rfl ?_
              refine O.l (Lo.call [.agg #[.int .i64 x0, .int .i64 x1, .int .i64 x2, .int .i64 x3, .int .i64 x4, .int .i64 x5, .int .i64 x6, .int .i64 2, v12]] (by exact Try.call34) rfl (jb_BrokenNo x0 x1 x2 x3 x4 x5 x6 2 v12 hV13 (by decide)) [] [0, 1, 2, 3, 4, 5, 6, 7] (by decide) rfl [var g89 [.int .i64 0, .int .i64 0, .int .i64 0, .int .i64 0, .int .i64 0, .int .i64 0, .int .i64 0, .int .i64 0, Value.slice none 0 0] 28, var g87 [.int .i64 0, .int .i64 0, .int .i64 0, .int .i64 0, .int .i64 0, .int .i64 0, .int .i64 0, .int .i64 0, Value.slice none 0 0] 28, var g85 [.int .i64 0, .int .i64 0, .int .i64 0, .int .i64 0, .int .i64 0, .int .i64 0, .int .i64 0, .int .i64 0, Value.slice none 0 0] 28, var g83 [.int .i64 0, .int .i64 0, .int .i64 0, .int .i64 0, .int .i64 0, .int .i64 0, .int .i64 0, .int .i64 0, Value.slice none 0 0] 28, row (Value.slice none 0 0) 3 1 (([] : List Int).map encZ), row v12 3 1 ((Jb.rising js).map encZ), var g3 [.int .i64 ac, .int .i64 cd] 35, var g1 [.int .i64 x0, .int .i64 x1, .int .i64 x2, .int .i64 x3, .int .i64 x4, .int .i64 x5, .int .i64 x6, .int .i64 2, v12] 28] rfl RoOk.nil) rfl ?_
              rintro _ _ ⟨_, ⟨rfl, rfl⟩, rfl⟩
              refine O.p (Pu.move rfl) rfl ?_
              refine O.p (Pu.extract rfl rfl) rfl ?_
              refine O.p (Pu.extract rfl rfl) rfl ?_
              refine O.p (Pu.assign rfl) rfl ?_
              refine O.p (Pu.assign rfl) rfl ?_
              refine O.nil ?_
              refine J.seq ?_
              refine J.seq ?_
              refine J.drawMix [(0, false), (1, false), (2, false), (3, false), (4, false), (5, false), (6, false), (7, false), (8, false), (9, false), (10, false), (11, false), (12, false), (13, false), (14, false), (15, false), (16, false), (17, false), (18, false), (19, false), (20, false), (21, false), (22, false), (23, false), (24, false), (25, false), (26, false), (27, false), (28, false), (29, false), (30, false), (31, false), (32, false), (33, false), (34, false), (35, false), (36, false), (37, false), (38, false), (39, false), (40, false), (41, false), (42, false), (43, false), (44, false), (45, false), (46, false), (47, false), (48, false), (49, false), (50, false), (51, false), (52, false), (53, false), (54, false), (55, false), (56, false), (57, false), (58, false), (59, false), (60, false), (61, false), (62, false), (63, false)] [0, 1, 2, 3, 4, 6, 7] [var g89 [.int .i64 0, .int .i64 0, .int .i64 0, .int .i64 0, .int .i64 0, .int .i64 0, .int .i64 0, .int .i64 0, Value.slice none 0 0] 28, var g87 [.int .i64 0, .int .i64 0, .int .i64 0, .int .i64 0, .int .i64 0, .int .i64 0, .int .i64 0, .int .i64 0, Value.slice none 0 0] 28, var g85 [.int .i64 0, .int .i64 0, .int .i64 0, .int .i64 0, .int .i64 0, .int .i64 0, .int .i64 0, .int .i64 0, Value.slice none 0 0] 28, var g83 [.int .i64 0, .int .i64 0, .int .i64 0, .int .i64 0, .int .i64 0, .int .i64 0, .int .i64 0, .int .i64 0, Value.slice none 0 0] 28, row (Value.slice none 0 0) 3 1 (([] : List Int).map encZ), var g3 [.int .i64 ac, .int .i64 cd] 35, var g1 [.int .i64 x0, .int .i64 x1, .int .i64 x2, .int .i64 x3, .int .i64 x4, .int .i64 x5, .int .i64 x6, .int .i64 2, v12] 28] Try.mixed (by kernel_rfl) (by decide) rfl ?_
              refine Mx.q rfl (Qt.ld rfl (Cel.var 3 rfl) (o := 0) (off := 0) rfl (Cut.agg [.int .i64 0, .int .i64 0, .int .i64 0, .int .i64 0, .int .i64 0, .int .i64 0, .int .i64 0, .int .i64 0, Value.slice none 0 0] Try.isAgg28 Try.sizeOf28 rfl rfl)) rfl ?_
              refine Mx.q rfl (Qt.ld rfl (Cel.var 2 rfl) (o := 0) (off := 0) rfl (Cut.agg [.int .i64 0, .int .i64 0, .int .i64 0, .int .i64 0, .int .i64 0, .int .i64 0, .int .i64 0, .int .i64 0, Value.slice none 0 0] Try.isAgg28 Try.sizeOf28 rfl rfl)) rfl ?_
              refine Mx.call (vs := [.agg #[.int .i64 0, .int .i64 0, .int .i64 0, .int .i64 0, .int .i64 0, .int .i64 0, .int .i64 0, .int .i64 0, Value.slice none 0 0], .agg #[.int .i64 0, .int .i64 0, .int .i64 0, .int .i64 0, .int .i64 0, .int .i64 0, .int .i64 0, .int .i64 0, Value.slice none 0 0]]) (caps := []) rfl (by exact Try.call15) rfl rfl (r32_Same 0 0 0 0 0 0 0 0 (Value.slice none 0 0) ([] : List Int) 0 0 0 0 0 0 0 0 (Value.slice none 0 0) ([] : List Int) (by first | omega | (simp; done) | (have h_ := Jb.rising_len (l := js); first | omega | (have h2_ := Jb.without_len (l := Jb.rising js) (c := ac); omega)) | (have h_ := Jb.rising_len (l := l); omega)) (by first | omega | (simp; done) | (have h_ := Jb.rising_len (l := js); first | omega | (have h2_ := Jb.without_len (l := Jb.rising js) (c := ac); omega)) | (have h_ := Jb.rising_len (l := l); omega))) (fun _ _ h => h) (RoOk.of 4 rfl row_rd [] (by decide) rfl (RoOk.of 4 rfl row_rd [] (by decide) rfl RoOk.nil)) rfl ?_
              refine Mx.p rfl (Pu.not rfl) rfl ?_
              refine Mx.p rfl (Pu.move rfl) rfl ?_
              refine Mx.gq (t := 74) rfl rfl rfl (not_of_true (by simp)) rfl (Pu.qt (Pu.move rfl)) rfl ?_
              refine Mx.gq (t := 74) rfl rfl rfl (not_of_true (by simp)) rfl (Pu.qt (Pu.move rfl)) rfl ?_
              refine Mx.gq (t := 74) rfl rfl rfl (not_of_true (by simp)) rfl (Pu.qt (Pu.neq rfl rfl)) rfl ?_
              refine Mx.p rfl (Pu.pickF rfl (not_of_true (by simp)) rfl) rfl ?_
              refine Mx.p rfl (Pu.move rfl) rfl ?_
              refine Mx.gq (t := 79) rfl rfl rfl rfl rfl (Pu.qt (Pu.move rfl)) rfl ?_
              refine Mx.gq (t := 79) rfl rfl rfl rfl rfl (Pu.qt (Pu.move rfl)) rfl ?_
              refine Mx.gq (t := 79) rfl rfl rfl rfl rfl (Pu.qt (Pu.neq rfl rfl)) rfl ?_
              refine Mx.p rfl (Pu.pickF rfl rfl rfl) rfl ?_
              refine Mx.p rfl (Pu.move rfl) rfl ?_
              refine Mx.gq (t := 84) rfl rfl rfl rfl rfl (Qt.ld rfl (Cel.var 1 rfl) (o := 0) (off := 0) rfl (Cut.agg [.int .i64 0, .int .i64 0, .int .i64 0, .int .i64 0, .int .i64 0, .int .i64 0, .int .i64 0, .int .i64 0, Value.slice none 0 0] Try.isAgg28 Try.sizeOf28 rfl rfl)) rfl ?_
              refine Mx.gq (t := 84) rfl rfl rfl rfl rfl (Qt.ld rfl (Cel.var 0 rfl) (o := 0) (off := 0) rfl (Cut.agg [.int .i64 0, .int .i64 0, .int .i64 0, .int .i64 0, .int .i64 0, .int .i64 0, .int .i64 0, .int .i64 0, Value.slice none 0 0] Try.isAgg28 Try.sizeOf28 rfl rfl)) rfl ?_
              refine Mx.gcall (vs := [.agg #[.int .i64 0, .int .i64 0, .int .i64 0, .int .i64 0, .int .i64 0, .int .i64 0, .int .i64 0, .int .i64 0, Value.slice none 0 0], .agg #[.int .i64 0, .int .i64 0, .int .i64 0, .int .i64 0, .int .i64 0, .int .i64 0, .int .i64 0, .int .i64 0, Value.slice none 0 0]]) (caps := []) (t := 84) rfl rfl rfl rfl rfl (by exact Try.call15) rfl rfl (r32_Same 0 0 0 0 0 0 0 0 (Value.slice none 0 0) ([] : List Int) 0 0 0 0 0 0 0 0 (Value.slice none 0 0) ([] : List Int) (by first | omega | (simp; done) | (have h_ := Jb.rising_len (l := js); first | omega | (have h2_ := Jb.without_len (l := Jb.rising js) (c := ac); omega)) | (have h_ := Jb.rising_len (l := l); omega)) (by first | omega | (simp; done) | (have h_ := Jb.rising_len (l := js); first | omega | (have h2_ := Jb.without_len (l := Jb.rising js) (c := ac); omega)) | (have h_ := Jb.rising_len (l := l); omega))) (fun _ _ h => h) (RoOk.of 4 rfl row_rd [] (by decide) rfl (RoOk.of 4 rfl row_rd [] (by decide) rfl RoOk.nil)) rfl ?_
              refine Mx.gq (t := 84) rfl rfl rfl rfl rfl (Pu.qt (Pu.not rfl)) rfl ?_
              refine Mx.p rfl (Pu.pickF rfl rfl rfl) rfl ?_
              refine Mx.p rfl (Pu.move rfl) rfl ?_
              refine Mx.gq (t := 90) rfl rfl rfl (not_of_true (by simp)) rfl (Pu.qt (Pu.move rfl)) rfl ?_
              refine Mx.gq (t := 90) rfl rfl rfl (not_of_true (by simp)) rfl (Pu.qt (Pu.move rfl)) rfl ?_
              refine Mx.gq (t := 90) rfl rfl rfl (not_of_true (by simp)) rfl (Pu.qt (Pu.neq rfl rfl)) rfl ?_
              refine Mx.p rfl (Pu.pickF rfl (not_of_true (by simp)) rfl) rfl ?_
              refine Mx.p rfl (Pu.move rfl) rfl ?_
              refine Mx.gq (t := 95) rfl rfl rfl rfl rfl (Qt.ld rfl (Cel.var 6 rfl) (o := 0) (off := 0) rfl (Cut.agg [.int .i64 x0, .int .i64 x1, .int .i64 x2, .int .i64 x3, .int .i64 x4, .int .i64 x5, .int .i64 x6, .int .i64 2, v12] Try.isAgg28 Try.sizeOf28 rfl rfl)) rfl ?_
              refine Mx.gq (t := 95) rfl rfl rfl rfl rfl (Pu.qt (Pu.fieldAddr (off' := 1) Try.runUnderlying35 rfl Try.sizeOf3 rfl rfl rfl)) rfl ?_
              refine Mx.gq (t := 95) rfl rfl rfl rfl rfl (Qt.ld rfl (Cel.var 5 rfl) (o := 0) (off := 1) rfl (Cut.one Try.isAgg3 rfl)) rfl ?_
              refine Mx.gcall (vs := [.agg #[.int .i64 x0, .int .i64 x1, .int .i64 x2, .int .i64 x3, .int .i64 x4, .int .i64 x5, .int .i64 x6, .int .i64 2, v12], .int .i64 cd]) (caps := []) (t := 95) rfl rfl rfl rfl rfl (by exact Try.call35) rfl rfl (jb_Ends x0 x1 x2 x3 x4 x5 x6 2 cd v12 hV13) (fun _ _ h => h) RoOk.nil rfl ?_
              refine Mx.gq (t := 95) rfl rfl rfl rfl rfl (Qt.ld rfl (Cel.var 6 rfl) (o := 0) (off := 0) rfl (Cut.agg [.int .i64 x0, .int .i64 x1, .int .i64 x2, .int .i64 x3, .int .i64 x4, .int .i64 x5, .int .i64 x6, .int .i64 2, v12] Try.isAgg28 Try.sizeOf28 rfl rfl)) rfl ?_
              refine Mx.gq (t := 95) rfl rfl rfl rfl rfl (Pu.qt (Pu.fieldAddr (off' := 1) Try.runUnderlying35 rfl Try.sizeOf3 rfl rfl rfl)) rfl ?_
              refine Mx.gq (t := 95) rfl rfl rfl rfl rfl (Qt.ld rfl (Cel.var 5 rfl) (o := 0) (off := 1) rfl (Cut.one Try.isAgg3 rfl)) rfl ?_
              refine Mx.gcall (vs := [.agg #[.int .i64 x0, .int .i64 x1, .int .i64 x2, .int .i64 x3, .int .i64 x4, .int .i64 x5, .int .i64 x6, .int .i64 2, v12], .int .i64 cd]) (caps := []) (t := 95) rfl rfl rfl rfl rfl (by exact Try.call36) rfl rfl (r32_Ends x0 x1 x2 x3 x4 x5 x6 2 cd v12 hV13) (fun _ _ h => h) RoOk.nil rfl ?_
              refine Mx.gq (t := 95) rfl rfl rfl rfl rfl (Pu.qt (Pu.neq rfl rfl)) rfl ?_
              refine Mx.p rfl (Pu.pickF rfl rfl rfl) rfl ?_
              refine Mx.p rfl (Pu.move rfl) rfl ?_
              refine Mx.gq (t := 106) rfl rfl rfl (by simp) rfl (Pu.qt (Pu.move rfl)) rfl ?_
              refine Mx.gq (t := 106) rfl rfl rfl (by simp) rfl (Pu.qt (Pu.eql rfl rfl)) rfl ?_
              refine Mx.gq (t := 106) rfl rfl rfl (by simp) rfl (Pu.qt (Pu.fieldAddr (off' := 7) Try.runUnderlying28 rfl Try.sizeOf3 rfl rfl rfl)) rfl ?_
              refine Mx.gq (t := 106) rfl rfl rfl (by simp) rfl (Qt.ld rfl (Cel.var 6 rfl) (o := 0) (off := 7) rfl (Cut.one Try.isAgg3 rfl)) rfl ?_
              refine Mx.gq (t := 106) rfl rfl rfl (by simp) rfl (Pu.qt (Pu.eql rfl rfl)) rfl ?_
              refine Mx.gq (t := 106) rfl rfl rfl (by simp) rfl (Pu.qt (Pu.bneq Try.underlying4 rfl rfl)) rfl ?_
              refine Mx.p rfl (Pu.pickF rfl (by simp) rfl) rfl ?_
              refine Mx.p rfl (Pu.move rfl) rfl ?_
              refine Mx.gq (t := 114) rfl rfl rfl (by decide) rfl (Pu.qt (Pu.move rfl)) rfl ?_
              refine Mx.gq (t := 114) rfl rfl rfl (by decide) rfl (Pu.qt (Pu.eql rfl rfl)) rfl ?_
              refine Mx.gq (t := 114) rfl rfl rfl (by decide) rfl (Pu.qt (Pu.move rfl)) rfl ?_
              refine Mx.gskip (t := 117) rfl rfl rfl (no_bool (by decide)) rfl rfl ?_
              refine Mx.gskip (t := 117) rfl rfl rfl (no_bool (by decide)) rfl rfl ?_
              refine Mx.gq (t := 114) rfl rfl rfl (by decide) rfl (Pu.qt (Pu.pickF rfl rfl rfl)) rfl ?_
              refine Mx.p rfl (Pu.pickF rfl (by decide) rfl) rfl ?_
              refine Mx.p rfl (Pu.move rfl) rfl ?_
              refine Mx.gq (t := 122) rfl rfl rfl rfl rfl (Pu.qt (Pu.move rfl)) rfl ?_
              refine Mx.gq (t := 122) rfl rfl rfl rfl rfl (Pu.qt (Pu.neq rfl rfl)) rfl ?_
              refine Mx.gq (t := 122) rfl rfl rfl rfl rfl (Pu.qt (Pu.move rfl)) rfl ?_
              refine Mx.gq (t := 125) rfl rfl rfl rfl rfl (Pu.qt (Pu.move rfl)) rfl ?_
              refine Mx.gq (t := 125) rfl rfl rfl rfl rfl (Pu.qt (Pu.neq rfl rfl)) rfl ?_
              refine Mx.gq (t := 125) rfl rfl rfl rfl rfl (Pu.qt (Pu.move rfl)) rfl ?_
              refine Mx.gq (t := 128) rfl rfl rfl rfl rfl (Pu.qt (Pu.move rfl)) rfl ?_
              refine Mx.gq (t := 128) rfl rfl rfl rfl rfl (Pu.qt (Pu.neq rfl rfl)) rfl ?_
              refine Mx.gq (t := 125) rfl rfl rfl rfl rfl (Pu.qt (Pu.pickF rfl rfl rfl)) rfl ?_
              refine Mx.gq (t := 122) rfl rfl rfl rfl rfl (Pu.qt (Pu.pickT rfl rfl rfl)) rfl ?_
              refine Mx.p rfl (Pu.pickF rfl rfl rfl) rfl ?_
              refine Mx.nil ?_
              refine J.condF rfl rfl ?_
              refine J.skip ?_
              refine J.seq ?_
              refine J.drawMix [(0, false), (1, false), (2, false), (3, false), (4, false), (5, false), (6, false), (7, false), (8, false), (9, false), (10, false), (11, false), (12, false), (13, false), (14, false), (15, false), (16, false), (17, false), (18, false), (19, false), (20, false), (21, false), (22, true), (23, false), (24, false)] [0, 1, 2, 3, 4, 5, 7] [var g89 [.int .i64 0, .int .i64 0, .int .i64 0, .int .i64 0, .int .i64 0, .int .i64 0, .int .i64 0, .int .i64 0, Value.slice none 0 0] 28, var g87 [.int .i64 0, .int .i64 0, .int .i64 0, .int .i64 0, .int .i64 0, .int .i64 0, .int .i64 0, .int .i64 0, Value.slice none 0 0] 28, var g85 [.int .i64 0, .int .i64 0, .int .i64 0, .int .i64 0, .int .i64 0, .int .i64 0, .int .i64 0, .int .i64 0, Value.slice none 0 0] 28, var g83 [.int .i64 0, .int .i64 0, .int .i64 0, .int .i64 0, .int .i64 0, .int .i64 0, .int .i64 0, .int .i64 0, Value.slice none 0 0] 28, row (Value.slice none 0 0) 3 1 (([] : List Int).map encZ), row v12 3 1 ((Jb.rising js).map encZ), var g1 [.int .i64 x0, .int .i64 x1, .int .i64 x2, .int .i64 x3, .int .i64 x4, .int .i64 x5, .int .i64 x6, .int .i64 2, v12] 28] Try.mixed (by kernel_rfl) (by decide) rfl ?_
              refine Mx.q rfl (Qt.ld rfl (Cel.var 3 rfl) (o := 0) (off := 0) rfl (Cut.agg [.int .i64 0, .int .i64 0, .int .i64 0, .int .i64 0, .int .i64 0, .int .i64 0, .int .i64 0, .int .i64 0, Value.slice none 0 0] Try.isAgg28 Try.sizeOf28 rfl rfl)) rfl ?_
              refine Mx.q rfl (Qt.ld rfl (Cel.var 1 rfl) (o := 0) (off := 0) rfl (Cut.agg [.int .i64 0, .int .i64 0, .int .i64 0, .int .i64 0, .int .i64 0, .int .i64 0, .int .i64 0, .int .i64 0, Value.slice none 0 0] Try.isAgg28 Try.sizeOf28 rfl rfl)) rfl ?_
              refine Mx.call (vs := [.agg #[.int .i64 0, .int .i64 0, .int .i64 0, .int .i64 0, .int .i64 0, .int .i64 0, .int .i64 0, .int .i64 0, Value.slice none 0 0], .agg #[.int .i64 0, .int .i64 0, .int .i64 0, .int .i64 0, .int .i64 0, .int .i64 0, .int .i64 0, .int .i64 0, Value.slice none 0 0]]) (caps := []) rfl (by exact Try.call37) rfl rfl (jb_Same 0 0 0 0 0 0 0 0 (Value.slice none 0 0) ([] : List Int) 0 0 0 0 0 0 0 0 (Value.slice none 0 0) ([] : List Int) (by first | omega | (simp; done) | (have h_ := Jb.rising_len (l := js); first | omega | (have h2_ := Jb.without_len (l := Jb.rising js) (c := ac); omega)) | (have h_ := Jb.rising_len (l := l); omega)) (by first | omega | (simp; done) | (have h_ := Jb.rising_len (l := js); first | omega | (have h2_ := Jb.without_len (l := Jb.rising js) (c := ac); omega)) | (have h_ := Jb.rising_len (l := l); omega))) (fun _ _ h => h) (RoOk.of 4 rfl row_rd [] (by decide) rfl (RoOk.of 4 rfl row_rd [] (by decide) rfl RoOk.nil)) rfl ?_
              refine Mx.q rfl (Qt.ld rfl (Cel.var 2 rfl) (o := 0) (off := 0) rfl (Cut.agg [.int .i64 0, .int .i64 0, .int .i64 0, .int .i64 0, .int .i64 0, .int .i64 0, .int .i64 0, .int .i64 0, Value.slice none 0 0] Try.isAgg28 Try.sizeOf28 rfl rfl)) rfl ?_
              refine Mx.q rfl (Qt.ld rfl (Cel.var 0 rfl) (o := 0) (off := 0) rfl (Cut.agg [.int .i64 0, .int .i64 0, .int .i64 0, .int .i64 0, .int .i64 0, .int .i64 0, .int .i64 0, .int .i64 0, Value.slice none 0 0] Try.isAgg28 Try.sizeOf28 rfl rfl)) rfl ?_
              refine Mx.call (vs := [.agg #[.int .i64 0, .int .i64 0, .int .i64 0, .int .i64 0, .int .i64 0, .int .i64 0, .int .i64 0, .int .i64 0, Value.slice none 0 0], .agg #[.int .i64 0, .int .i64 0, .int .i64 0, .int .i64 0, .int .i64 0, .int .i64 0, .int .i64 0, .int .i64 0, Value.slice none 0 0]]) (caps := []) rfl (by exact Try.call15) rfl rfl (r32_Same 0 0 0 0 0 0 0 0 (Value.slice none 0 0) ([] : List Int) 0 0 0 0 0 0 0 0 (Value.slice none 0 0) ([] : List Int) (by first | omega | (simp; done) | (have h_ := Jb.rising_len (l := js); first | omega | (have h2_ := Jb.without_len (l := Jb.rising js) (c := ac); omega)) | (have h_ := Jb.rising_len (l := l); omega)) (by first | omega | (simp; done) | (have h_ := Jb.rising_len (l := js); first | omega | (have h2_ := Jb.without_len (l := Jb.rising js) (c := ac); omega)) | (have h_ := Jb.rising_len (l := l); omega))) (fun _ _ h => h) (RoOk.of 4 rfl row_rd [] (by decide) rfl (RoOk.of 4 rfl row_rd [] (by decide) rfl RoOk.nil)) rfl ?_
              refine Mx.p rfl (Pu.beql Try.underlying4 rfl rfl) rfl ?_
              refine Mx.p rfl (Pu.move rfl) rfl ?_
              refine Mx.gq (t := 141) rfl rfl rfl (by simp) rfl (Qt.ld rfl (Cel.var 6 rfl) (o := 0) (off := 0) rfl (Cut.agg [.int .i64 x0, .int .i64 x1, .int .i64 x2, .int .i64 x3, .int .i64 x4, .int .i64 x5, .int .i64 x6, .int .i64 2, v12] Try.isAgg28 Try.sizeOf28 rfl rfl)) rfl ?_
              refine Mx.gq (t := 141) rfl rfl rfl (by simp) rfl (Qt.ld rfl (Cel.var 6 rfl) (o := 0) (off := 0) rfl (Cut.agg [.int .i64 x0, .int .i64 x1, .int .i64 x2, .int .i64 x3, .int .i64 x4, .int .i64 x5, .int .i64 x6, .int .i64 2, v12] Try.isAgg28 Try.sizeOf28 rfl rfl)) rfl ?_
              refine Mx.gcall (vs := [.agg #[.int .i64 x0, .int .i64 x1, .int .i64 x2, .int .i64 x3, .int .i64 x4, .int .i64 x5, .int .i64 x6, .int .i64 2, v12], .agg #[.int .i64 x0, .int .i64 x1, .int .i64 x2, .int .i64 x3, .int .i64 x4, .int .i64 x5, .int .i64 x6, .int .i64 2, v12]]) (caps := []) (t := 141) rfl rfl rfl (by simp) rfl (by exact Try.call37) rfl rfl (jb_Same x0 x1 x2 x3 x4 x5 x6 2 v12 (Jb.rising js) x0 x1 x2 x3 x4 x5 x6 2 v12 (Jb.rising js) (by first | omega | (simp; done) | (have h_ := Jb.rising_len (l := js); first | omega | (have h2_ := Jb.without_len (l := Jb.rising js) (c := ac); omega)) | (have h_ := Jb.rising_len (l := l); omega)) (by first | omega | (simp; done) | (have h_ := Jb.rising_len (l := js); first | omega | (have h2_ := Jb.without_len (l := Jb.rising js) (c := ac); omega)) | (have h_ := Jb.rising_len (l := l); omega))) (fun _ _ h => h) (RoOk.of 5 rfl row_rd [] (by decide) rfl (RoOk.of 5 rfl row_rd [] (by decide) rfl RoOk.nil)) rfl ?_
              refine Mx.p rfl (Pu.pickT rfl (by simp) rfl) rfl ?_
              refine Mx.p rfl (Pu.move rfl) rfl ?_
              refine Mx.gq (t := 146) rfl rfl rfl (by simp) rfl (Pu.qt (Pu.fieldAddr (off' := 0) Try.runUnderlying28 rfl Try.sizeOf23 rfl rfl rfl)) rfl ?_
              refine Mx.gq (t := 146) rfl rfl rfl (by simp) rfl (Qt.ld rfl (Cel.var 6 rfl) (o := 0) (off := 0) rfl (Cut.agg [.int .i64 x0, .int .i64 x1, .int .i64 x2, .int .i64 x3, .int .i64 x4, .int .i64 x5, .int .i64 x6] Try.isAgg23 Try.sizeOf23 rfl rfl)) rfl ?_
              refine Mx.gcall (vs := [.agg #[.int .i64 x0, .int .i64 x1, .int .i64 x2, .int .i64 x3, .int .i64 x4, .int .i64 x5, .int .i64 x6]]) (caps := []) (t := 146) rfl rfl rfl (by simp) rfl (by exact Try.call13) rfl rfl (jb_New x0 x1 x2 x3 x4 x5 x6) (fun _ _ h => h) RoOk.nil rfl ?_
              refine Mx.gq (t := 146) rfl rfl rfl (by simp) rfl (Pu.qt (Pu.fieldAddr (off' := 0) Try.runUnderlying28 rfl Try.sizeOf23 rfl rfl rfl)) rfl ?_
              refine Mx.gq (t := 146) rfl rfl rfl (by simp) rfl (Qt.ld rfl (Cel.var 6 rfl) (o := 0) (off := 0) rfl (Cut.agg [.int .i64 x0, .int .i64 x1, .int .i64 x2, .int .i64 x3, .int .i64 x4, .int .i64 x5, .int .i64 x6] Try.isAgg23 Try.sizeOf23 rfl rfl)) rfl ?_
              refine Mx.gq (t := 146) rfl rfl rfl (by simp) rfl (Pu.qt (Pu.build [(0, .agg #[.int .i64 x0, .int .i64 x1, .int .i64 x2, .int .i64 x3, .int .i64 x4, .int .i64 x5, .int .i64 x6]), (1, .int .i64 1)] [.int .i64 x0, .int .i64 x1, .int .i64 x2, .int .i64 x3, .int .i64 x4, .int .i64 x5, .int .i64 x6, .int .i64 1, Value.slice none 0 0] #[(0, 7), (7, 1), (8, 1)] Try.runUnderlying28 Try.zeroValue28 (places28 Try.underlying28) rfl (by kernel_rfl))) rfl ?_
              refine Mx.gcall (vs := [.agg #[.int .i64 x0, .int .i64 x1, .int .i64 x2, .int .i64 x3, .int .i64 x4, .int .i64 x5, .int .i64 x6, .int .i64 1, Value.slice none 0 0], .agg #[.int .i64 x0, .int .i64 x1, .int .i64 x2, .int .i64 x3, .int .i64 x4, .int .i64 x5, .int .i64 x6, .int .i64 1, Value.slice none 0 0]]) (caps := []) (t := 146) rfl rfl rfl (by simp) rfl (by exact Try.call15) rfl rfl (r32_Same x0 x1 x2 x3 x4 x5 x6 1 (Value.slice none 0 0) ([] : List Int) x0 x1 x2 x3 x4 x5 x6 1 (Value.slice none 0 0) ([] : List Int) (by first | omega | (simp; done) | (have h_ := Jb.rising_len (l := js); first | omega | (have h2_ := Jb.without_len (l := Jb.rising js) (c := ac); omega)) | (have h_ := Jb.rising_len (l := l); omega)) (by first | omega | (simp; done) | (have h_ := Jb.rising_len (l := js); first | omega | (have h2_ := Jb.without_len (l := Jb.rising js) (c := ac); omega)) | (have h_ := Jb.rising_len (l := l); omega))) (fun _ _ h => h) (RoOk.of 4 rfl row_rd [] (by decide) rfl (RoOk.of 4 rfl row_rd [] (by decide) rfl RoOk.nil)) rfl ?_
              refine Mx.p rfl (Pu.pickT rfl (by simp) rfl) rfl ?_
              refine Mx.p rfl (Pu.move rfl) rfl ?_
              refine Mx.gl (t := 155) rfl rfl rfl (by simp) rfl (Lo.call [] (by exact Try.call11) rfl law32_awake [] [0, 1, 2, 3, 4, 5, 6, 7] (by decide) rfl [var g89 [.int .i64 0, .int .i64 0, .int .i64 0, .int .i64 0, .int .i64 0, .int .i64 0, .int .i64 0, .int .i64 0, Value.slice none 0 0] 28, var g87 [.int .i64 0, .int .i64 0, .int .i64 0, .int .i64 0, .int .i64 0, .int .i64 0, .int .i64 0, .int .i64 0, Value.slice none 0 0] 28, var g85 [.int .i64 0, .int .i64 0, .int .i64 0, .int .i64 0, .int .i64 0, .int .i64 0, .int .i64 0, .int .i64 0, Value.slice none 0 0] 28, var g83 [.int .i64 0, .int .i64 0, .int .i64 0, .int .i64 0, .int .i64 0, .int .i64 0, .int .i64 0, .int .i64 0, Value.slice none 0 0] 28, row (Value.slice none 0 0) 3 1 (([] : List Int).map encZ), row v12 3 1 ((Jb.rising js).map encZ), var g3 [.int .i64 ac, .int .i64 cd] 35, var g1 [.int .i64 x0, .int .i64 x1, .int .i64 x2, .int .i64 x3, .int .i64 x4, .int .i64 x5, .int .i64 x6, .int .i64 2, v12] 28] rfl RoOk.nil) rfl ?_
              rintro _ _ ⟨_, ⟨rfl, rfl⟩, rfl⟩
              refine MxK.go [0, 1, 2, 3, 4, 5, 7] [0, 1, 2, 3, 4, 5, 6] [var g89 [.int .i64 0, .int .i64 0, .int .i64 0, .int .i64 0, .int .i64 0, .int .i64 0, .int .i64 0, .int .i64 0, Value.slice none 0 0] 28, var g87 [.int .i64 0, .int .i64 0, .int .i64 0, .int .i64 0, .int .i64 0, .int .i64 0, .int .i64 0, .int .i64 0, Value.slice none 0 0] 28, var g85 [.int .i64 0, .int .i64 0, .int .i64 0, .int .i64 0, .int .i64 0, .int .i64 0, .int .i64 0, .int .i64 0, Value.slice none 0 0] 28, var g83 [.int .i64 0, .int .i64 0, .int .i64 0, .int .i64 0, .int .i64 0, .int .i64 0, .int .i64 0, .int .i64 0, Value.slice none 0 0] 28, row (Value.slice none 0 0) 3 1 (([] : List Int).map encZ), row v12 3 1 ((Jb.rising js).map encZ), var g1 [.int .i64 x0, .int .i64 x1, .int .i64 x2, .int .i64 x3, .int .i64 x4, .int .i64 x5, .int .i64 x6, .int .i64 2, v12] 28] (by decide) rfl (by decide) rfl ?_
              refine Mx.p rfl (Pu.pickT rfl (by simp) rfl) rfl ?_
              refine Mx.p rfl (Pu.assign rfl) rfl ?_
              refine Mx.nil ?_
              exact J.ret (Fin.ret (rs := [.tmp 6]) rfl [_] ⟨rfl, trivial⟩ [] (by decide) [] rfl ⟨rfl, rfl⟩)
          ·
            have p92 := of_decide_eq_false h50
            refine J.nilRow 3 1 ?_
            show J _ _ _ [row (Value.slice none 0 0) 3 1 (([] : List Int).map encZ), row v12 3 1 ((Jb.rising js).map encZ), var g3 [.int .i64 ac, .int .i64 cd] 35, var g1 [.int .i64 x0, .int .i64 x1, .int .i64 x2, .int .i64 x3, .int .i64 x4, .int .i64 x5, .int .i64 x6, .int .i64 2, v12] 28]
            refine J.region ?_
            refine O.q (Qt.ld rfl (Cel.var 3 rfl) (o := 0) (off := 0) rfl (Cut.agg [.int .i64 x0, .int .i64 x1, .int .i64 x2, .int .i64 x3, .int .i64 x4, .int .i64 x5, .int .i64 x6, .int .i64 2, v12] Try.isAgg28 Try.sizeOf28 rfl rfl)) rfl ?_
            refine O.p (Pu.move rfl) rfl ?_
            refine O.l (Lo.call [.agg #[.int .i64 x0, .int .i64 x1, .int .i64 x2, .int .i64 x3, .int .i64 x4, .int .i64 x5, .int .i64 x6, .int .i64 2, v12], lv] (by exact Try.call12) rfl (jb_DoneNo x0 x1 x2 x3 x4 x5 x6 2 v12 lv l hV13 (by first | omega | (simp; done) | (have h_ := Jb.rising_len (l := js); first | omega | (have h2_ := Jb.without_len (l := Jb.rising js) (c := ac); omega)) | (have h_ := Jb.rising_len (l := l); omega)) (of_decide_eq_false rfl)) [] [0, 1, 2, 3] (by decide) rfl [row (Value.slice none 0 0) 3 1 (([] : List Int).map encZ), row v12 3 1 ((Jb.rising js).map encZ), var g3 [.int .i64 ac, .int .i64 cd] 35, var g1 [.int .i64 x0, .int .i64 x1, .int .i64 x2, .int .i64 x3, .int .i64 x4, .int .i64 x5, .int .i64 x6, .int .i64 2, v12] 28] rfl (RoOk.ro 1 rfl [] rfl RoOk.nil)) rfl ?_
            rintro _ _ ⟨_, ⟨rfl, rfl⟩, rfl⟩
            refine O.p (Pu.move rfl) rfl ?_
            refine O.p (Pu.extract rfl rfl) rfl ?_
            refine O.p (Pu.extract rfl rfl) rfl ?_
            refine O.p (Pu.extract rfl rfl) rfl ?_
            refine O.l (Lo.alloc [.int .i64 0, .int .i64 0, .int .i64 0, .int .i64 0, .int .i64 0, .int .i64 0, .int .i64 0, .int .i64 0, Value.slice none 0 0] (by exact Try.zeroValue28) rfl) rfl ?_
            rintro _ _ ⟨g94, rfl, rfl⟩
            refine O.l0 (Lo.store 0 (vs := [.int .i64 0, .int .i64 0, .int .i64 0, .int .i64 0, .int .i64 0, .int .i64 0, .int .i64 0, .int .i64 0, Value.slice none 0 0]) [.int .i64 0, .int .i64 0, .int .i64 0, .int .i64 0, .int .i64 0, .int .i64 0, .int .i64 0, .int .i64 0, Value.slice none 0 0] rfl rfl rfl (by exact Try.sizeOf28) rfl rfl rfl rfl rfl) ?_
            rintro _ _ rfl
            refine O.p (Pu.assign rfl) rfl ?_
            refine O.p (Pu.assign rfl) rfl ?_
            refine O.nil ?_
            refine J.seq ?_
            refine J.region ?_
            refine O.q (Qt.ld rfl (Cel.var 4 rfl) (o := 0) (off := 0) rfl (Cut.agg [.int .i64 x0, .int .i64 x1, .int .i64 x2, .int .i64 x3, .int .i64 x4, .int .i64 x5, .int .i64 x6, .int .i64 2, v12] Try.isAgg28 Try.sizeOf28 rfl rfl)) rfl ?_
            refine O.p (Pu.move rfl) rfl ?_
            refine O.l (Lo.call [.agg #[.int .i64 x0, .int .i64 x1, .int .i64 x2, .int .i64 x3, .int .i64 x4, .int .i64 x5, .int .i64 x6, .int .i64 2, v12], lv] (by exact Try.call32) rfl (r32_DoneNo x0 x1 x2 x3 x4 x5 x6 2 v12 lv l hV13 (of_decide_eq_false rfl)) [] [0, 1, 2, 3, 4] (by decide) rfl [var g94 [.int .i64 0, .int .i64 0, .int .i64 0, .int .i64 0, .int .i64 0, .int .i64 0, .int .i64 0, .int .i64 0, Value.slice none 0 0] 28, row (Value.slice none 0 0) 3 1 (([] : List Int).map encZ), row v12 3 1 ((Jb.rising js).map encZ), var g3 [.int .i64 ac, .int .i64 cd] 35, var g1 [.int .i64 x0, .int .i64 x1, .int .i64 x2, .int .i64 x3, .int .i64 x4, .int .i64 x5, .int .i64 x6, .int .i64 2, v12] 28] rfl (RoOk.ro 1 rfl [] rfl RoOk.nil)) rfl ?_
            rintro _ _ ⟨_, ⟨rfl, rfl⟩, rfl⟩
            refine O.p (Pu.move rfl) rfl ?_
            refine O.p (Pu.extract rfl rfl) rfl ?_
            refine O.p (Pu.extract rfl rfl) rfl ?_
            refine O.p (Pu.extract rfl rfl) rfl ?_
            refine O.l (Lo.alloc [.int .i64 0, .int .i64 0, .int .i64 0, .int .i64 0, .int .i64 0, .int .i64 0, .int .i64 0, .int .i64 0, Value.slice none 0 0] (by exact Try.zeroValue28) rfl) rfl ?_
            rintro _ _ ⟨g96, rfl, rfl⟩
            refine O.l0 (Lo.store 0 (vs := [.int .i64 0, .int .i64 0, .int .i64 0, .int .i64 0, .int .i64 0, .int .i64 0, .int .i64 0, .int .i64 0, Value.slice none 0 0]) [.int .i64 0, .int .i64 0, .int .i64 0, .int .i64 0, .int .i64 0, .int .i64 0, .int .i64 0, .int .i64 0, Value.slice none 0 0] rfl rfl rfl (by exact Try.sizeOf28) rfl rfl rfl rfl rfl) ?_
            rintro _ _ rfl
            refine O.p (Pu.assign rfl) rfl ?_
            refine O.p (Pu.assign rfl) rfl ?_
            refine O.nil ?_
            refine J.seq ?_
            refine J.region ?_
            refine O.q (Qt.ld rfl (Cel.var 5 rfl) (o := 0) (off := 0) rfl (Cut.agg [.int .i64 x0, .int .i64 x1, .int .i64 x2, .int .i64 x3, .int .i64 x4, .int .i64 x5, .int .i64 x6, .int .i64 2, v12] Try.isAgg28 Try.sizeOf28 rfl rfl)) rfl ?_
            refine O.p (Pu.fieldAddr (off' := 0) Try.runUnderlying35 rfl Try.sizeOf3 rfl rfl rfl) rfl ?_
            refine O.q (Qt.ld rfl (Cel.var 4 rfl) (o := 0) (off := 0) rfl (Cut.one Try.isAgg3 rfl)) rfl ?_
            refine O.p (Pu.fieldAddr (off' := 1) Try.runUnderlying35 rfl Try.sizeOf3 rfl rfl rfl) rfl ?_
            refine O.q (Qt.ld rfl (Cel.var 4 rfl) (o := 0) (off := 1) rfl (Cut.one Try.isAgg3 rfl)) rfl ?_
            refine O.l (Lo.call [.agg #[.int .i64 x0, .int .i64 x1, .int .i64 x2, .int .i64 x3, .int .i64 x4, .int .i64 x5, .int .i64 x6, .int .i64 2, v12], .int .i64 ac, .int .i64 cd] (by exact Try.call14) rfl (jb_HeardNo x0 x1 x2 x3 x4 x5 x6 2 v12 (Jb.rising js) ac cd (by first | omega | (simp; done) | (have h_ := Jb.rising_len (l := js); first | omega | (have h2_ := Jb.without_len (l := Jb.rising js) (c := ac); omega)) | (have h_ := Jb.rising_len (l := l); omega)) (.inr (of_decide_eq_false h50))) [] [0, 1, 2, 3, 4, 5] (by decide) rfl [var g96 [.int .i64 0, .int .i64 0, .int .i64 0, .int .i64 0, .int .i64 0, .int .i64 0, .int .i64 0, .int .i64 0, Value.slice none 0 0] 28, var g94 [.int .i64 0, .int .i64 0, .int .i64 0, .int .i64 0, .int .i64 0, .int .i64 0, .int .i64 0, .int .i64 0, Value.slice none 0 0] 28, row (Value.slice none 0 0) 3 1 (([] : List Int).map encZ), row v12 3 1 ((Jb.rising js).map encZ), var g3 [.int .i64 ac, .int .i64 cd] 35, var g1 [.int .i64 x0, .int .i64 x1, .int .i64 x2, .int .i64 x3, .int .i64 x4, .int .i64 x5, .int .i64 x6, .int .i64 2, v12] 28] rfl (RoOk.of 3 rfl row_rd [] (by decide) rfl RoOk.nil)) rfl ?_
            rintro _ _ ⟨_, ⟨V97, rfl, rfl⟩, rfl⟩
            refine O.p (Pu.move rfl) rfl ?_
            refine O.p (Pu.extract rfl rfl) rfl ?_
            refine O.p (Pu.extract rfl rfl) rfl ?_
            refine O.l (Lo.alloc [.int .i64 0, .int .i64 0, .int .i64 0, .int .i64 0, .int .i64 0, .int .i64 0, .int .i64 0, .int .i64 0, Value.slice none 0 0] (by exact Try.zeroValue28) rfl) rfl ?_
            rintro _ _ ⟨g99, rfl, rfl⟩
            refine O.one (Src.row 1 rfl) (fun hV100 => ?_)
            refine O.l0 (Lo.store 0 (vs := [.int .i64 x0, .int .i64 x1, .int .i64 x2, .int .i64 x3, .int .i64 x4, .int .i64 x5, .int .i64 x6, .int .i64 2, V97]) [.int .i64 x0, .int .i64 x1, .int .i64 x2, .int .i64 x3, .int .i64 x4, .int .i64 x5, .int .i64 x6, .int .i64 2, V97] rfl rfl rfl (by exact Try.sizeOf28) rfl rfl (by simp only [List.all_cons, List.all_nil, Bool.and_true, hV100] <;> rfl) rfl rfl) ?_
            rintro _ _ rfl
            refine O.p (Pu.assign rfl) rfl ?_
            refine O.nil ?_
            refine J.seq ?_
            refine J.region ?_
            refine O.q (Qt.ld rfl (Cel.var 7 rfl) (o := 0) (off := 0) rfl (Cut.agg [.int .i64 x0, .int .i64 x1, .int .i64 x2, .int .i64 x3, .int .i64 x4, .int .i64 x5, .int .i64 x6, .int .i64 2, v12] Try.isAgg28 Try.sizeOf28 rfl rfl)) rfl ?_
            refine O.p (Pu.fieldAddr (off' := 0) Try.runUnderlying35 rfl Try.sizeOf3 rfl rfl rfl) rfl ?_
            refine O.q (Qt.ld rfl (Cel.var 6 rfl) (o := 0) (off := 0) rfl (Cut.one Try.isAgg3 rfl)) rfl ?_
            refine O.p (Pu.fieldAddr (off' := 1) Try.runUnderlying35 rfl Try.sizeOf3 rfl rfl rfl) rfl ?_
            refine O.q (Qt.ld rfl (Cel.var 6 rfl) (o := 0) (off := 1) rfl (Cut.one Try.isAgg3 rfl)) rfl ?_
            refine O.l (Lo.call [.agg #[.int .i64 x0, .int .i64 x1, .int .i64 x2, .int .i64 x3, .int .i64 x4, .int .i64 x5, .int .i64 x6, .int .i64 2, v12], .int .i64 ac, .int .i64 cd] (by exact Try.call33) rfl (r32_HeardNo x0 x1 x2 x3 x4 x5 x6 2 v12 (Jb.rising js) ac cd (by first | omega | (simp; done) | (have h_ := Jb.rising_len (l := js); first | omega | (have h2_ := Jb.without_len (l := Jb.rising js) (c := ac); omega)) | (have h_ := Jb.rising_len (l := l); omega)) (.inr (of_decide_eq_false h50))) [] [0, 1, 2, 3, 4, 5, 6, 7] (by decide) rfl [var g99 [.int .i64 x0, .int .i64 x1, .int .i64 x2, .int .i64 x3, .int .i64 x4, .int .i64 x5, .int .i64 x6, .int .i64 2, V97] 28, row V97 3 1 ((Jb.rising js).map encZ), var g96 [.int .i64 0, .int .i64 0, .int .i64 0, .int .i64 0, .int .i64 0, .int .i64 0, .int .i64 0, .int .i64 0, Value.slice none 0 0] 28, var g94 [.int .i64 0, .int .i64 0, .int .i64 0, .int .i64 0, .int .i64 0, .int .i64 0, .int .i64 0, .int .i64 0, Value.slice none 0 0] 28, row (Value.slice none 0 0) 3 1 (([] : List Int).map encZ), row v12 3 1 ((Jb.rising js).map encZ), var g3 [.int .i64 ac, .int .i64 cd] 35, var g1 [.int .i64 x0, .int .i64 x1, .int .i64 x2, .int .i64 x3, .int .i64 x4, .int .i64 x5, .int .i64 x6, .int .i64 2, v12] 28] rfl (RoOk.of 5 rfl row_rd [] (by decide) rfl RoOk.nil)) rfl ?_
            rintro _ _ ⟨_, ⟨rfl, rfl⟩, rfl⟩
            refine O.p (Pu.move rfl) rfl ?_
            refine O.p (Pu.extract rfl rfl) rfl ?_
            refine O.p (Pu.extract rfl rfl) rfl ?_
            refine O.l (Lo.alloc [.int .i64 0, .int .i64 0, .int .i64 0, .int .i64 0, .int .i64 0, .int .i64 0, .int .i64 0, .int .i64 0, Value.slice none 0 0] (by exact Try.zeroValue28) rfl) rfl ?_
            rintro _ _ ⟨g102, rfl, rfl⟩
            refine O.l0 (Lo.store 0 (vs := [.int .i64 x0, .int .i64 x1, .int .i64 x2, .int .i64 x3, .int .i64 x4, .int .i64 x5, .int .i64 x6, .int .i64 2, v12]) [.int .i64 x0, .int .i64 x1, .int .i64 x2, .int .i64 x3, .int .i64 x4, .int .i64 x5, .int .i64 x6, .int .i64 2, v12] rfl rfl rfl (by exact Try.sizeOf28) rfl rfl (by simp only [List.all_cons, List.all_nil, Bool.and_true, hV13] <;> rfl) rfl rfl) ?_
            rintro _ _ rfl
            refine O.p (Pu.assign rfl) rfl ?_
            refine O.nil ?_
            refine J.seq ?_
            refine J.region ?_
            refine O.q (Qt.ld rfl (Cel.var 8 rfl) (o := 0) (off := 0) rfl (Cut.agg [.int .i64 x0, .int .i64 x1, .int .i64 x2, .int .i64 x3, .int .i64 x4, .int .i64 x5, .int .i64 x6, .int .i64 2, v12] Try.isAgg28 Try.sizeOf28 rfl rfl)) rfl ?_
            refine O.l (Lo.call [.agg #[.int .i64 x0, .int .i64 x1, .int .i64 x2, .int .i64 x3, .int .i64 x4, .int .i64 x5, .int .i64 x6, .int .i64 2, v12]] (by exact Try.call34) rfl (jb_BrokenNo x0 x1 x2 x3 x4 x5 x6 2 v12 hV13 (by decide)) [] [0, 1, 2, 3, 4, 5, 6, 7, 8] (by decide) rfl [var g102 [.int .i64 x0, .int .i64 x1, .int .i64 x2, .int .i64 x3, .int .i64 x4, .int .i64 x5, .int .i64 x6, .int .i64 2, v12] 28, var g99 [.int .i64 x0, .int .i64 x1, .int .i64 x2, .int .i64 x3, .int .i64 x4, .int .i64 x5, .int .i64 x6, .int .i64 2, V97] 28, row V97 3 1 ((Jb.rising js).map encZ), var g96 [.int .i64 0, .int .i64 0, .int .i64 0, .int .i64 0, .int .i64 0, .int .i64 0, .int .i64 0, .int .i64 0, Value.slice none 0 0] 28, var g94 [.int .i64 0, .int .i64 0, .int .i64 0, .int .i64 0, .int .i64 0, .int .i64 0, .int .i64 0, .int .i64 0, Value.slice none 0 0] 28, row (Value.slice none 0 0) 3 1 (([] : List Int).map encZ), row v12 3 1 ((Jb.rising js).map encZ), var g3 [.int .i64 ac, .int .i64 cd] 35, var g1 [.int .i64 x0, .int .i64 x1, .int .i64 x2, .int .i64 x3, .int .i64 x4, .int .i64 x5, .int .i64 x6, .int .i64 2, v12] 28] rfl RoOk.nil) rfl ?_
            rintro _ _ ⟨_, ⟨rfl, rfl⟩, rfl⟩
            refine O.p (Pu.move rfl) rfl ?_
            refine O.p (Pu.extract rfl rfl) rfl ?_
            refine O.p (Pu.extract rfl rfl) rfl ?_
            refine O.p (Pu.assign rfl) rfl ?_
            refine O.p (Pu.assign rfl) rfl ?_
            refine O.nil ?_
            refine J.seq ?_
            refine J.seq ?_
            refine J.drawMix [(0, false), (1, false), (2, false), (3, false), (4, false), (5, false), (6, false), (7, false), (8, false), (9, false), (10, false), (11, false), (12, false), (13, false), (14, false), (15, false), (16, false), (17, false), (18, false), (19, false), (20, false), (21, false), (22, false), (23, false), (24, false), (25, false), (26, false), (27, false), (28, false), (29, false), (30, false), (31, false), (32, false), (33, false), (34, false), (35, false), (36, false), (37, false), (38, false), (39, false), (40, false), (41, false), (42, false), (43, false), (44, false), (45, false), (46, false), (47, false), (48, false), (49, false), (50, false), (51, false), (52, false), (53, false), (54, false), (55, false), (56, false), (57, false), (58, false), (59, false), (60, false), (61, false), (62, false), (63, false)] [0, 1, 2, 3, 4, 5, 6, 7, 8] [var g102 [.int .i64 x0, .int .i64 x1, .int .i64 x2, .int .i64 x3, .int .i64 x4, .int .i64 x5, .int .i64 x6, .int .i64 2, v12] 28, var g99 [.int .i64 x0, .int .i64 x1, .int .i64 x2, .int .i64 x3, .int .i64 x4, .int .i64 x5, .int .i64 x6, .int .i64 2, V97] 28, row V97 3 1 ((Jb.rising js).map encZ), var g96 [.int .i64 0, .int .i64 0, .int .i64 0, .int .i64 0, .int .i64 0, .int .i64 0, .int .i64 0, .int .i64 0, Value.slice none 0 0] 28, var g94 [.int .i64 0, .int .i64 0, .int .i64 0, .int .i64 0, .int .i64 0, .int .i64 0, .int .i64 0, .int .i64 0, Value.slice none 0 0] 28, row (Value.slice none 0 0) 3 1 (([] : List Int).map encZ), row v12 3 1 ((Jb.rising js).map encZ), var g3 [.int .i64 ac, .int .i64 cd] 35, var g1 [.int .i64 x0, .int .i64 x1, .int .i64 x2, .int .i64 x3, .int .i64 x4, .int .i64 x5, .int .i64 x6, .int .i64 2, v12] 28] Try.mixed (by kernel_rfl) (by decide) rfl ?_
            refine Mx.q rfl (Qt.ld rfl (Cel.var 4 rfl) (o := 0) (off := 0) rfl (Cut.agg [.int .i64 0, .int .i64 0, .int .i64 0, .int .i64 0, .int .i64 0, .int .i64 0, .int .i64 0, .int .i64 0, Value.slice none 0 0] Try.isAgg28 Try.sizeOf28 rfl rfl)) rfl ?_
            refine Mx.q rfl (Qt.ld rfl (Cel.var 3 rfl) (o := 0) (off := 0) rfl (Cut.agg [.int .i64 0, .int .i64 0, .int .i64 0, .int .i64 0, .int .i64 0, .int .i64 0, .int .i64 0, .int .i64 0, Value.slice none 0 0] Try.isAgg28 Try.sizeOf28 rfl rfl)) rfl ?_
            refine Mx.call (vs := [.agg #[.int .i64 0, .int .i64 0, .int .i64 0, .int .i64 0, .int .i64 0, .int .i64 0, .int .i64 0, .int .i64 0, Value.slice none 0 0], .agg #[.int .i64 0, .int .i64 0, .int .i64 0, .int .i64 0, .int .i64 0, .int .i64 0, .int .i64 0, .int .i64 0, Value.slice none 0 0]]) (caps := []) rfl (by exact Try.call15) rfl rfl (r32_Same 0 0 0 0 0 0 0 0 (Value.slice none 0 0) ([] : List Int) 0 0 0 0 0 0 0 0 (Value.slice none 0 0) ([] : List Int) (by first | omega | (simp; done) | (have h_ := Jb.rising_len (l := js); first | omega | (have h2_ := Jb.without_len (l := Jb.rising js) (c := ac); omega)) | (have h_ := Jb.rising_len (l := l); omega)) (by first | omega | (simp; done) | (have h_ := Jb.rising_len (l := js); first | omega | (have h2_ := Jb.without_len (l := Jb.rising js) (c := ac); omega)) | (have h_ := Jb.rising_len (l := l); omega))) (fun _ _ h => h) (RoOk.of 5 rfl row_rd [] (by decide) rfl (RoOk.of 5 rfl row_rd [] (by decide) rfl RoOk.nil)) rfl ?_
            refine Mx.p rfl (Pu.not rfl) rfl ?_
            refine Mx.p rfl (Pu.move rfl) rfl ?_
            refine Mx.gq (t := 74) rfl rfl rfl (not_of_true (by simp)) rfl (Pu.qt (Pu.move rfl)) rfl ?_
            refine Mx.gq (t := 74) rfl rfl rfl (not_of_true (by simp)) rfl (Pu.qt (Pu.move rfl)) rfl ?_
            refine Mx.gq (t := 74) rfl rfl rfl (not_of_true (by simp)) rfl (Pu.qt (Pu.neq rfl rfl)) rfl ?_
            refine Mx.p rfl (Pu.pickF rfl (not_of_true (by simp)) rfl) rfl ?_
            refine Mx.p rfl (Pu.move rfl) rfl ?_
            refine Mx.gq (t := 79) rfl rfl rfl rfl rfl (Pu.qt (Pu.move rfl)) rfl ?_
            refine Mx.gq (t := 79) rfl rfl rfl rfl rfl (Pu.qt (Pu.move rfl)) rfl ?_
            refine Mx.gq (t := 79) rfl rfl rfl rfl rfl (Pu.qt (Pu.neq rfl rfl)) rfl ?_
            refine Mx.p rfl (Pu.pickF rfl rfl rfl) rfl ?_
            refine Mx.p rfl (Pu.move rfl) rfl ?_
            refine Mx.gq (t := 84) rfl rfl rfl rfl rfl (Qt.ld rfl (Cel.var 1 rfl) (o := 0) (off := 0) rfl (Cut.agg [.int .i64 x0, .int .i64 x1, .int .i64 x2, .int .i64 x3, .int .i64 x4, .int .i64 x5, .int .i64 x6, .int .i64 2, V97] Try.isAgg28 Try.sizeOf28 rfl rfl)) rfl ?_
            refine Mx.gq (t := 84) rfl rfl rfl rfl rfl (Qt.ld rfl (Cel.var 0 rfl) (o := 0) (off := 0) rfl (Cut.agg [.int .i64 x0, .int .i64 x1, .int .i64 x2, .int .i64 x3, .int .i64 x4, .int .i64 x5, .int .i64 x6, .int .i64 2, v12] Try.isAgg28 Try.sizeOf28 rfl rfl)) rfl ?_
            refine Mx.gcall (vs := [.agg #[.int .i64 x0, .int .i64 x1, .int .i64 x2, .int .i64 x3, .int .i64 x4, .int .i64 x5, .int .i64 x6, .int .i64 2, V97], .agg #[.int .i64 x0, .int .i64 x1, .int .i64 x2, .int .i64 x3, .int .i64 x4, .int .i64 x5, .int .i64 x6, .int .i64 2, v12]]) (caps := []) (t := 84) rfl rfl rfl rfl rfl (by exact Try.call15) rfl rfl (r32_Same x0 x1 x2 x3 x4 x5 x6 2 V97 (Jb.rising js) x0 x1 x2 x3 x4 x5 x6 2 v12 (Jb.rising js) (by first | omega | (simp; done) | (have h_ := Jb.rising_len (l := js); first | omega | (have h2_ := Jb.without_len (l := Jb.rising js) (c := ac); omega)) | (have h_ := Jb.rising_len (l := l); omega)) (by first | omega | (simp; done) | (have h_ := Jb.rising_len (l := js); first | omega | (have h2_ := Jb.without_len (l := Jb.rising js) (c := ac); omega)) | (have h_ := Jb.rising_len (l := l); omega))) (fun _ _ h => h) (RoOk.of 2 rfl row_rd [] (by decide) rfl (RoOk.of 6 rfl row_rd [] (by decide) rfl RoOk.nil)) rfl ?_
            refine Mx.gq (t := 84) rfl rfl rfl rfl rfl (Pu.qt (Pu.not rfl)) rfl ?_
            refine Mx.p rfl (Pu.pickF rfl rfl rfl) rfl ?_
            refine Mx.p rfl (Pu.move rfl) rfl ?_
            refine Mx.gq (t := 90) rfl rfl rfl (not_of_true (by simp)) rfl (Pu.qt (Pu.move rfl)) rfl ?_
            refine Mx.gq (t := 90) rfl rfl rfl (not_of_true (by simp)) rfl (Pu.qt (Pu.move rfl)) rfl ?_
            refine Mx.gq (t := 90) rfl rfl rfl (not_of_true (by simp)) rfl (Pu.qt (Pu.neq rfl rfl)) rfl ?_
            refine Mx.p rfl (Pu.pickF rfl (not_of_true (by simp)) rfl) rfl ?_
            refine Mx.p rfl (Pu.move rfl) rfl ?_
            refine Mx.gq (t := 95) rfl rfl rfl rfl rfl (Qt.ld rfl (Cel.var 8 rfl) (o := 0) (off := 0) rfl (Cut.agg [.int .i64 x0, .int .i64 x1, .int .i64 x2, .int .i64 x3, .int .i64 x4, .int .i64 x5, .int .i64 x6, .int .i64 2, v12] Try.isAgg28 Try.sizeOf28 rfl rfl)) rfl ?_
            refine Mx.gq (t := 95) rfl rfl rfl rfl rfl (Pu.qt (Pu.fieldAddr (off' := 1) Try.runUnderlying35 rfl Try.sizeOf3 rfl rfl rfl)) rfl ?_
            refine Mx.gq (t := 95) rfl rfl rfl rfl rfl (Qt.ld rfl (Cel.var 7 rfl) (o := 0) (off := 1) rfl (Cut.one Try.isAgg3 rfl)) rfl ?_
            refine Mx.gcall (vs := [.agg #[.int .i64 x0, .int .i64 x1, .int .i64 x2, .int .i64 x3, .int .i64 x4, .int .i64 x5, .int .i64 x6, .int .i64 2, v12], .int .i64 cd]) (caps := []) (t := 95) rfl rfl rfl rfl rfl (by exact Try.call35) rfl rfl (jb_Ends x0 x1 x2 x3 x4 x5 x6 2 cd v12 hV13) (fun _ _ h => h) RoOk.nil rfl ?_
            refine Mx.gq (t := 95) rfl rfl rfl rfl rfl (Qt.ld rfl (Cel.var 8 rfl) (o := 0) (off := 0) rfl (Cut.agg [.int .i64 x0, .int .i64 x1, .int .i64 x2, .int .i64 x3, .int .i64 x4, .int .i64 x5, .int .i64 x6, .int .i64 2, v12] Try.isAgg28 Try.sizeOf28 rfl rfl)) rfl ?_
            refine Mx.gq (t := 95) rfl rfl rfl rfl rfl (Pu.qt (Pu.fieldAddr (off' := 1) Try.runUnderlying35 rfl Try.sizeOf3 rfl rfl rfl)) rfl ?_
            refine Mx.gq (t := 95) rfl rfl rfl rfl rfl (Qt.ld rfl (Cel.var 7 rfl) (o := 0) (off := 1) rfl (Cut.one Try.isAgg3 rfl)) rfl ?_
            refine Mx.gcall (vs := [.agg #[.int .i64 x0, .int .i64 x1, .int .i64 x2, .int .i64 x3, .int .i64 x4, .int .i64 x5, .int .i64 x6, .int .i64 2, v12], .int .i64 cd]) (caps := []) (t := 95) rfl rfl rfl rfl rfl (by exact Try.call36) rfl rfl (r32_Ends x0 x1 x2 x3 x4 x5 x6 2 cd v12 hV13) (fun _ _ h => h) RoOk.nil rfl ?_
            refine Mx.gq (t := 95) rfl rfl rfl rfl rfl (Pu.qt (Pu.neq rfl rfl)) rfl ?_
            refine Mx.p rfl (Pu.pickF rfl rfl rfl) rfl ?_
            refine Mx.p rfl (Pu.move rfl) rfl ?_
            refine Mx.gq (t := 106) rfl rfl rfl (by simp) rfl (Pu.qt (Pu.move rfl)) rfl ?_
            refine Mx.gq (t := 106) rfl rfl rfl (by simp) rfl (Pu.qt (Pu.eql rfl rfl)) rfl ?_
            refine Mx.gq (t := 106) rfl rfl rfl (by simp) rfl (Pu.qt (Pu.fieldAddr (off' := 7) Try.runUnderlying28 rfl Try.sizeOf3 rfl rfl rfl)) rfl ?_
            refine Mx.gq (t := 106) rfl rfl rfl (by simp) rfl (Qt.ld rfl (Cel.var 8 rfl) (o := 0) (off := 7) rfl (Cut.one Try.isAgg3 rfl)) rfl ?_
            refine Mx.gq (t := 106) rfl rfl rfl (by simp) rfl (Pu.qt (Pu.eql rfl rfl)) rfl ?_
            refine Mx.gq (t := 106) rfl rfl rfl (by simp) rfl (Pu.qt (Pu.bneq Try.underlying4 rfl rfl)) rfl ?_
            refine Mx.p rfl (Pu.pickF rfl (by simp) rfl) rfl ?_
            refine Mx.p rfl (Pu.move rfl) rfl ?_
            refine Mx.gq (t := 114) rfl rfl rfl (by decide) rfl (Pu.qt (Pu.move rfl)) rfl ?_
            refine Mx.gq (t := 114) rfl rfl rfl (by decide) rfl (Pu.qt (Pu.eql rfl rfl)) rfl ?_
            refine Mx.gq (t := 114) rfl rfl rfl (by decide) rfl (Pu.qt (Pu.move rfl)) rfl ?_
            refine Mx.gskip (t := 117) rfl rfl rfl (no_bool (by decide)) rfl rfl ?_
            refine Mx.gskip (t := 117) rfl rfl rfl (no_bool (by decide)) rfl rfl ?_
            refine Mx.gq (t := 114) rfl rfl rfl (by decide) rfl (Pu.qt (Pu.pickF rfl rfl rfl)) rfl ?_
            refine Mx.p rfl (Pu.pickF rfl (by decide) rfl) rfl ?_
            refine Mx.p rfl (Pu.move rfl) rfl ?_
            refine Mx.gq (t := 122) rfl rfl rfl rfl rfl (Pu.qt (Pu.move rfl)) rfl ?_
            refine Mx.gq (t := 122) rfl rfl rfl rfl rfl (Pu.qt (Pu.neq rfl rfl)) rfl ?_
            refine Mx.gq (t := 122) rfl rfl rfl rfl rfl (Pu.qt (Pu.move rfl)) rfl ?_
            refine Mx.gq (t := 125) rfl rfl rfl rfl rfl (Pu.qt (Pu.move rfl)) rfl ?_
            refine Mx.gq (t := 125) rfl rfl rfl rfl rfl (Pu.qt (Pu.neq rfl rfl)) rfl ?_
            refine Mx.gq (t := 125) rfl rfl rfl rfl rfl (Pu.qt (Pu.move rfl)) rfl ?_
            refine Mx.gq (t := 128) rfl rfl rfl rfl rfl (Pu.qt (Pu.move rfl)) rfl ?_
            refine Mx.gq (t := 128) rfl rfl rfl rfl rfl (Pu.qt (Pu.neq rfl rfl)) rfl ?_
            refine Mx.gq (t := 125) rfl rfl rfl rfl rfl (Pu.qt (Pu.pickF rfl rfl rfl)) rfl ?_
            refine Mx.gq (t := 122) rfl rfl rfl rfl rfl (Pu.qt (Pu.pickT rfl rfl rfl)) rfl ?_
            refine Mx.p rfl (Pu.pickF rfl rfl rfl) rfl ?_
            refine Mx.nil ?_
            refine J.condF rfl rfl ?_
            refine J.skip ?_
            refine J.seq ?_
            refine J.drawMix [(0, false), (1, false), (2, false), (3, false), (4, false), (5, false), (6, false), (7, false), (8, false), (9, false), (10, false), (11, false), (12, false), (13, false), (14, false), (15, false), (16, false), (17, false), (18, false), (19, false), (20, false), (21, false), (22, true), (23, false), (24, false)] [0, 1, 2, 3, 4, 5, 6, 8] [var g102 [.int .i64 x0, .int .i64 x1, .int .i64 x2, .int .i64 x3, .int .i64 x4, .int .i64 x5, .int .i64 x6, .int .i64 2, v12] 28, var g99 [.int .i64 x0, .int .i64 x1, .int .i64 x2, .int .i64 x3, .int .i64 x4, .int .i64 x5, .int .i64 x6, .int .i64 2, V97] 28, row V97 3 1 ((Jb.rising js).map encZ), var g96 [.int .i64 0, .int .i64 0, .int .i64 0, .int .i64 0, .int .i64 0, .int .i64 0, .int .i64 0, .int .i64 0, Value.slice none 0 0] 28, var g94 [.int .i64 0, .int .i64 0, .int .i64 0, .int .i64 0, .int .i64 0, .int .i64 0, .int .i64 0, .int .i64 0, Value.slice none 0 0] 28, row (Value.slice none 0 0) 3 1 (([] : List Int).map encZ), row v12 3 1 ((Jb.rising js).map encZ), var g1 [.int .i64 x0, .int .i64 x1, .int .i64 x2, .int .i64 x3, .int .i64 x4, .int .i64 x5, .int .i64 x6, .int .i64 2, v12] 28] Try.mixed (by kernel_rfl) (by decide) rfl ?_
            refine Mx.q rfl (Qt.ld rfl (Cel.var 4 rfl) (o := 0) (off := 0) rfl (Cut.agg [.int .i64 0, .int .i64 0, .int .i64 0, .int .i64 0, .int .i64 0, .int .i64 0, .int .i64 0, .int .i64 0, Value.slice none 0 0] Try.isAgg28 Try.sizeOf28 rfl rfl)) rfl ?_
            refine Mx.q rfl (Qt.ld rfl (Cel.var 1 rfl) (o := 0) (off := 0) rfl (Cut.agg [.int .i64 x0, .int .i64 x1, .int .i64 x2, .int .i64 x3, .int .i64 x4, .int .i64 x5, .int .i64 x6, .int .i64 2, V97] Try.isAgg28 Try.sizeOf28 rfl rfl)) rfl ?_
            refine Mx.call (vs := [.agg #[.int .i64 0, .int .i64 0, .int .i64 0, .int .i64 0, .int .i64 0, .int .i64 0, .int .i64 0, .int .i64 0, Value.slice none 0 0], .agg #[.int .i64 x0, .int .i64 x1, .int .i64 x2, .int .i64 x3, .int .i64 x4, .int .i64 x5, .int .i64 x6, .int .i64 2, V97]]) (caps := []) rfl (by exact Try.call37) rfl rfl (jb_Same 0 0 0 0 0 0 0 0 (Value.slice none 0 0) ([] : List Int) x0 x1 x2 x3 x4 x5 x6 2 V97 (Jb.rising js) (by first | omega | (simp; done) | (have h_ := Jb.rising_len (l := js); first | omega | (have h2_ := Jb.without_len (l := Jb.rising js) (c := ac); omega)) | (have h_ := Jb.rising_len (l := l); omega)) (by first | omega | (simp; done) | (have h_ := Jb.rising_len (l := js); first | omega | (have h2_ := Jb.without_len (l := Jb.rising js) (c := ac); omega)) | (have h_ := Jb.rising_len (l := l); omega))) (fun _ _ h => h) (RoOk.of 5 rfl row_rd [] (by decide) rfl (RoOk.of 2 rfl row_rd [] (by decide) rfl RoOk.nil)) rfl ?_
            refine Mx.q rfl (Qt.ld rfl (Cel.var 3 rfl) (o := 0) (off := 0) rfl (Cut.agg [.int .i64 0, .int .i64 0, .int .i64 0, .int .i64 0, .int .i64 0, .int .i64 0, .int .i64 0, .int .i64 0, Value.slice none 0 0] Try.isAgg28 Try.sizeOf28 rfl rfl)) rfl ?_
            refine Mx.q rfl (Qt.ld rfl (Cel.var 0 rfl) (o := 0) (off := 0) rfl (Cut.agg [.int .i64 x0, .int .i64 x1, .int .i64 x2, .int .i64 x3, .int .i64 x4, .int .i64 x5, .int .i64 x6, .int .i64 2, v12] Try.isAgg28 Try.sizeOf28 rfl rfl)) rfl ?_
            refine Mx.call (vs := [.agg #[.int .i64 0, .int .i64 0, .int .i64 0, .int .i64 0, .int .i64 0, .int .i64 0, .int .i64 0, .int .i64 0, Value.slice none 0 0], .agg #[.int .i64 x0, .int .i64 x1, .int .i64 x2, .int .i64 x3, .int .i64 x4, .int .i64 x5, .int .i64 x6, .int .i64 2, v12]]) (caps := []) rfl (by exact Try.call15) rfl rfl (r32_Same 0 0 0 0 0 0 0 0 (Value.slice none 0 0) ([] : List Int) x0 x1 x2 x3 x4 x5 x6 2 v12 (Jb.rising js) (by first | omega | (simp; done) | (have h_ := Jb.rising_len (l := js); first | omega | (have h2_ := Jb.without_len (l := Jb.rising js) (c := ac); omega)) | (have h_ := Jb.rising_len (l := l); omega)) (by first | omega | (simp; done) | (have h_ := Jb.rising_len (l := js); first | omega | (have h2_ := Jb.without_len (l := Jb.rising js) (c := ac); omega)) | (have h_ := Jb.rising_len (l := l); omega))) (fun _ _ h => h) (RoOk.of 5 rfl row_rd [] (by decide) rfl (RoOk.of 6 rfl row_rd [] (by decide) rfl RoOk.nil)) rfl ?_
            refine Mx.p rfl (Pu.beql Try.underlying4 rfl rfl) rfl ?_
            refine Mx.p rfl (Pu.move rfl) rfl ?_
            refine Mx.gq (t := 141) rfl rfl rfl (by simp) rfl (Qt.ld rfl (Cel.var 7 rfl) (o := 0) (off := 0) rfl (Cut.agg [.int .i64 x0, .int .i64 x1, .int .i64 x2, .int .i64 x3, .int .i64 x4, .int .i64 x5, .int .i64 x6, .int .i64 2, v12] Try.isAgg28 Try.sizeOf28 rfl rfl)) rfl ?_
            refine Mx.gq (t := 141) rfl rfl rfl (by simp) rfl (Qt.ld rfl (Cel.var 7 rfl) (o := 0) (off := 0) rfl (Cut.agg [.int .i64 x0, .int .i64 x1, .int .i64 x2, .int .i64 x3, .int .i64 x4, .int .i64 x5, .int .i64 x6, .int .i64 2, v12] Try.isAgg28 Try.sizeOf28 rfl rfl)) rfl ?_
            refine Mx.gcall (vs := [.agg #[.int .i64 x0, .int .i64 x1, .int .i64 x2, .int .i64 x3, .int .i64 x4, .int .i64 x5, .int .i64 x6, .int .i64 2, v12], .agg #[.int .i64 x0, .int .i64 x1, .int .i64 x2, .int .i64 x3, .int .i64 x4, .int .i64 x5, .int .i64 x6, .int .i64 2, v12]]) (caps := []) (t := 141) rfl rfl rfl (by simp) rfl (by exact Try.call37) rfl rfl (jb_Same x0 x1 x2 x3 x4 x5 x6 2 v12 (Jb.rising js) x0 x1 x2 x3 x4 x5 x6 2 v12 (Jb.rising js) (by first | omega | (simp; done) | (have h_ := Jb.rising_len (l := js); first | omega | (have h2_ := Jb.without_len (l := Jb.rising js) (c := ac); omega)) | (have h_ := Jb.rising_len (l := l); omega)) (by first | omega | (simp; done) | (have h_ := Jb.rising_len (l := js); first | omega | (have h2_ := Jb.without_len (l := Jb.rising js) (c := ac); omega)) | (have h_ := Jb.rising_len (l := l); omega))) (fun _ _ h => h) (RoOk.of 6 rfl row_rd [] (by decide) rfl (RoOk.of 6 rfl row_rd [] (by decide) rfl RoOk.nil)) rfl ?_
            refine Mx.p rfl (Pu.pickT rfl (by simp) rfl) rfl ?_
            refine Mx.p rfl (Pu.move rfl) rfl ?_
            refine Mx.gq (t := 146) rfl rfl rfl (by simp) rfl (Pu.qt (Pu.fieldAddr (off' := 0) Try.runUnderlying28 rfl Try.sizeOf23 rfl rfl rfl)) rfl ?_
            refine Mx.gq (t := 146) rfl rfl rfl (by simp) rfl (Qt.ld rfl (Cel.var 7 rfl) (o := 0) (off := 0) rfl (Cut.agg [.int .i64 x0, .int .i64 x1, .int .i64 x2, .int .i64 x3, .int .i64 x4, .int .i64 x5, .int .i64 x6] Try.isAgg23 Try.sizeOf23 rfl rfl)) rfl ?_
            refine Mx.gcall (vs := [.agg #[.int .i64 x0, .int .i64 x1, .int .i64 x2, .int .i64 x3, .int .i64 x4, .int .i64 x5, .int .i64 x6]]) (caps := []) (t := 146) rfl rfl rfl (by simp) rfl (by exact Try.call13) rfl rfl (jb_New x0 x1 x2 x3 x4 x5 x6) (fun _ _ h => h) RoOk.nil rfl ?_
            refine Mx.gq (t := 146) rfl rfl rfl (by simp) rfl (Pu.qt (Pu.fieldAddr (off' := 0) Try.runUnderlying28 rfl Try.sizeOf23 rfl rfl rfl)) rfl ?_
            refine Mx.gq (t := 146) rfl rfl rfl (by simp) rfl (Qt.ld rfl (Cel.var 7 rfl) (o := 0) (off := 0) rfl (Cut.agg [.int .i64 x0, .int .i64 x1, .int .i64 x2, .int .i64 x3, .int .i64 x4, .int .i64 x5, .int .i64 x6] Try.isAgg23 Try.sizeOf23 rfl rfl)) rfl ?_
            refine Mx.gq (t := 146) rfl rfl rfl (by simp) rfl (Pu.qt (Pu.build [(0, .agg #[.int .i64 x0, .int .i64 x1, .int .i64 x2, .int .i64 x3, .int .i64 x4, .int .i64 x5, .int .i64 x6]), (1, .int .i64 1)] [.int .i64 x0, .int .i64 x1, .int .i64 x2, .int .i64 x3, .int .i64 x4, .int .i64 x5, .int .i64 x6, .int .i64 1, Value.slice none 0 0] #[(0, 7), (7, 1), (8, 1)] Try.runUnderlying28 Try.zeroValue28 (places28 Try.underlying28) rfl (by kernel_rfl))) rfl ?_
            refine Mx.gcall (vs := [.agg #[.int .i64 x0, .int .i64 x1, .int .i64 x2, .int .i64 x3, .int .i64 x4, .int .i64 x5, .int .i64 x6, .int .i64 1, Value.slice none 0 0], .agg #[.int .i64 x0, .int .i64 x1, .int .i64 x2, .int .i64 x3, .int .i64 x4, .int .i64 x5, .int .i64 x6, .int .i64 1, Value.slice none 0 0]]) (caps := []) (t := 146) rfl rfl rfl (by simp) rfl (by exact Try.call15) rfl rfl (r32_Same x0 x1 x2 x3 x4 x5 x6 1 (Value.slice none 0 0) ([] : List Int) x0 x1 x2 x3 x4 x5 x6 1 (Value.slice none 0 0) ([] : List Int) (by first | omega | (simp; done) | (have h_ := Jb.rising_len (l := js); first | omega | (have h2_ := Jb.without_len (l := Jb.rising js) (c := ac); omega)) | (have h_ := Jb.rising_len (l := l); omega)) (by first | omega | (simp; done) | (have h_ := Jb.rising_len (l := js); first | omega | (have h2_ := Jb.without_len (l := Jb.rising js) (c := ac); omega)) | (have h_ := Jb.rising_len (l := l); omega))) (fun _ _ h => h) (RoOk.of 5 rfl row_rd [] (by decide) rfl (RoOk.of 5 rfl row_rd [] (by decide) rfl RoOk.nil)) rfl ?_
            refine Mx.p rfl (Pu.pickT rfl (by simp) rfl) rfl ?_
            refine Mx.p rfl (Pu.move rfl) rfl ?_
            refine Mx.gl (t := 155) rfl rfl rfl (by simp) rfl (Lo.call [] (by exact Try.call11) rfl law32_awake [] [0, 1, 2, 3, 4, 5, 6, 7, 8] (by decide) rfl [var g102 [.int .i64 x0, .int .i64 x1, .int .i64 x2, .int .i64 x3, .int .i64 x4, .int .i64 x5, .int .i64 x6, .int .i64 2, v12] 28, var g99 [.int .i64 x0, .int .i64 x1, .int .i64 x2, .int .i64 x3, .int .i64 x4, .int .i64 x5, .int .i64 x6, .int .i64 2, V97] 28, row V97 3 1 ((Jb.rising js).map encZ), var g96 [.int .i64 0, .int .i64 0, .int .i64 0, .int .i64 0, .int .i64 0, .int .i64 0, .int .i64 0, .int .i64 0, Value.slice none 0 0] 28, var g94 [.int .i64 0, .int .i64 0, .int .i64 0, .int .i64 0, .int .i64 0, .int .i64 0, .int .i64 0, .int .i64 0, Value.slice none 0 0] 28, row (Value.slice none 0 0) 3 1 (([] : List Int).map encZ), row v12 3 1 ((Jb.rising js).map encZ), var g3 [.int .i64 ac, .int .i64 cd] 35, var g1 [.int .i64 x0, .int .i64 x1, .int .i64 x2, .int .i64 x3, .int .i64 x4, .int .i64 x5, .int .i64 x6, .int .i64 2, v12] 28] rfl RoOk.nil) rfl ?_
            rintro _ _ ⟨_, ⟨rfl, rfl⟩, rfl⟩
            refine MxK.go [0, 1, 2, 3, 4, 5, 6, 8] [0, 1, 2, 3, 4, 5, 6, 7] [var g102 [.int .i64 x0, .int .i64 x1, .int .i64 x2, .int .i64 x3, .int .i64 x4, .int .i64 x5, .int .i64 x6, .int .i64 2, v12] 28, var g99 [.int .i64 x0, .int .i64 x1, .int .i64 x2, .int .i64 x3, .int .i64 x4, .int .i64 x5, .int .i64 x6, .int .i64 2, V97] 28, row V97 3 1 ((Jb.rising js).map encZ), var g96 [.int .i64 0, .int .i64 0, .int .i64 0, .int .i64 0, .int .i64 0, .int .i64 0, .int .i64 0, .int .i64 0, Value.slice none 0 0] 28, var g94 [.int .i64 0, .int .i64 0, .int .i64 0, .int .i64 0, .int .i64 0, .int .i64 0, .int .i64 0, .int .i64 0, Value.slice none 0 0] 28, row (Value.slice none 0 0) 3 1 (([] : List Int).map encZ), row v12 3 1 ((Jb.rising js).map encZ), var g1 [.int .i64 x0, .int .i64 x1, .int .i64 x2, .int .i64 x3, .int .i64 x4, .int .i64 x5, .int .i64 x6, .int .i64 2, v12] 28] (by decide) rfl (by decide) rfl ?_
            refine Mx.p rfl (Pu.pickT rfl (by simp) rfl) rfl ?_
            refine Mx.p rfl (Pu.assign rfl) rfl ?_
            refine Mx.nil ?_
            exact J.ret (Fin.ret (rs := [.tmp 6]) rfl [_] ⟨rfl, trivial⟩ [] (by decide) [] rfl ⟨rfl, rfl⟩)
        ·
          have p105 := of_decide_eq_false h48
          refine J.nilRow 3 1 ?_
          show J _ _ _ [row (Value.slice none 0 0) 3 1 (([] : List Int).map encZ), row v12 3 1 ((Jb.rising js).map encZ), var g3 [.int .i64 ac, .int .i64 cd] 35, var g1 [.int .i64 x0, .int .i64 x1, .int .i64 x2, .int .i64 x3, .int .i64 x4, .int .i64 x5, .int .i64 x6, .int .i64 ph, v12] 28]
          refine J.region ?_
          refine O.q (Qt.ld rfl (Cel.var 3 rfl) (o := 0) (off := 0) rfl (Cut.agg [.int .i64 x0, .int .i64 x1, .int .i64 x2, .int .i64 x3, .int .i64 x4, .int .i64 x5, .int .i64 x6, .int .i64 ph, v12] Try.isAgg28 Try.sizeOf28 rfl rfl)) rfl ?_
          refine O.p (Pu.move rfl) rfl ?_
          refine O.l (Lo.call [.agg #[.int .i64 x0, .int .i64 x1, .int .i64 x2, .int .i64 x3, .int .i64 x4, .int .i64 x5, .int .i64 x6, .int .i64 ph, v12], lv] (by exact Try.call12) rfl (jb_DoneNo x0 x1 x2 x3 x4 x5 x6 ph v12 lv l hV13 (by first | omega | (simp; done) | (have h_ := Jb.rising_len (l := js); first | omega | (have h2_ := Jb.without_len (l := Jb.rising js) (c := ac); omega)) | (have h_ := Jb.rising_len (l := l); omega)) (of_decide_eq_false h14)) [] [0, 1, 2, 3] (by decide) rfl [row (Value.slice none 0 0) 3 1 (([] : List Int).map encZ), row v12 3 1 ((Jb.rising js).map encZ), var g3 [.int .i64 ac, .int .i64 cd] 35, var g1 [.int .i64 x0, .int .i64 x1, .int .i64 x2, .int .i64 x3, .int .i64 x4, .int .i64 x5, .int .i64 x6, .int .i64 ph, v12] 28] rfl (RoOk.ro 1 rfl [] rfl RoOk.nil)) rfl ?_
          rintro _ _ ⟨_, ⟨rfl, rfl⟩, rfl⟩
          refine O.p (Pu.move rfl) rfl ?_
          refine O.p (Pu.extract rfl rfl) rfl ?_
          refine O.p (Pu.extract rfl rfl) rfl ?_
          refine O.p (Pu.extract rfl rfl) rfl ?_
          refine O.l (Lo.alloc [.int .i64 0, .int .i64 0, .int .i64 0, .int .i64 0, .int .i64 0, .int .i64 0, .int .i64 0, .int .i64 0, Value.slice none 0 0] (by exact Try.zeroValue28) rfl) rfl ?_
          rintro _ _ ⟨g107, rfl, rfl⟩
          refine O.l0 (Lo.store 0 (vs := [.int .i64 0, .int .i64 0, .int .i64 0, .int .i64 0, .int .i64 0, .int .i64 0, .int .i64 0, .int .i64 0, Value.slice none 0 0]) [.int .i64 0, .int .i64 0, .int .i64 0, .int .i64 0, .int .i64 0, .int .i64 0, .int .i64 0, .int .i64 0, Value.slice none 0 0] rfl rfl rfl (by exact Try.sizeOf28) rfl rfl rfl rfl rfl) ?_
          rintro _ _ rfl
          refine O.p (Pu.assign rfl) rfl ?_
          refine O.p (Pu.assign rfl) rfl ?_
          refine O.nil ?_
          refine J.seq ?_
          refine J.region ?_
          refine O.q (Qt.ld rfl (Cel.var 4 rfl) (o := 0) (off := 0) rfl (Cut.agg [.int .i64 x0, .int .i64 x1, .int .i64 x2, .int .i64 x3, .int .i64 x4, .int .i64 x5, .int .i64 x6, .int .i64 ph, v12] Try.isAgg28 Try.sizeOf28 rfl rfl)) rfl ?_
          refine O.p (Pu.move rfl) rfl ?_
          refine O.l (Lo.call [.agg #[.int .i64 x0, .int .i64 x1, .int .i64 x2, .int .i64 x3, .int .i64 x4, .int .i64 x5, .int .i64 x6, .int .i64 ph, v12], lv] (by exact Try.call32) rfl (r32_DoneNo x0 x1 x2 x3 x4 x5 x6 ph v12 lv l hV13 (of_decide_eq_false h14)) [] [0, 1, 2, 3, 4] (by decide) rfl [var g107 [.int .i64 0, .int .i64 0, .int .i64 0, .int .i64 0, .int .i64 0, .int .i64 0, .int .i64 0, .int .i64 0, Value.slice none 0 0] 28, row (Value.slice none 0 0) 3 1 (([] : List Int).map encZ), row v12 3 1 ((Jb.rising js).map encZ), var g3 [.int .i64 ac, .int .i64 cd] 35, var g1 [.int .i64 x0, .int .i64 x1, .int .i64 x2, .int .i64 x3, .int .i64 x4, .int .i64 x5, .int .i64 x6, .int .i64 ph, v12] 28] rfl (RoOk.ro 1 rfl [] rfl RoOk.nil)) rfl ?_
          rintro _ _ ⟨_, ⟨rfl, rfl⟩, rfl⟩
          refine O.p (Pu.move rfl) rfl ?_
          refine O.p (Pu.extract rfl rfl) rfl ?_
          refine O.p (Pu.extract rfl rfl) rfl ?_
          refine O.p (Pu.extract rfl rfl) rfl ?_
          refine O.l (Lo.alloc [.int .i64 0, .int .i64 0, .int .i64 0, .int .i64 0, .int .i64 0, .int .i64 0, .int .i64 0, .int .i64 0, Value.slice none 0 0] (by exact Try.zeroValue28) rfl) rfl ?_
          rintro _ _ ⟨g109, rfl, rfl⟩
          refine O.l0 (Lo.store 0 (vs := [.int .i64 0, .int .i64 0, .int .i64 0, .int .i64 0, .int .i64 0, .int .i64 0, .int .i64 0, .int .i64 0, Value.slice none 0 0]) [.int .i64 0, .int .i64 0, .int .i64 0, .int .i64 0, .int .i64 0, .int .i64 0, .int .i64 0, .int .i64 0, Value.slice none 0 0] rfl rfl rfl (by exact Try.sizeOf28) rfl rfl rfl rfl rfl) ?_
          rintro _ _ rfl
          refine O.p (Pu.assign rfl) rfl ?_
          refine O.p (Pu.assign rfl) rfl ?_
          refine O.nil ?_
          refine J.seq ?_
          refine J.region ?_
          refine O.q (Qt.ld rfl (Cel.var 5 rfl) (o := 0) (off := 0) rfl (Cut.agg [.int .i64 x0, .int .i64 x1, .int .i64 x2, .int .i64 x3, .int .i64 x4, .int .i64 x5, .int .i64 x6, .int .i64 ph, v12] Try.isAgg28 Try.sizeOf28 rfl rfl)) rfl ?_
          refine O.p (Pu.fieldAddr (off' := 0) Try.runUnderlying35 rfl Try.sizeOf3 rfl rfl rfl) rfl ?_
          refine O.q (Qt.ld rfl (Cel.var 4 rfl) (o := 0) (off := 0) rfl (Cut.one Try.isAgg3 rfl)) rfl ?_
          refine O.p (Pu.fieldAddr (off' := 1) Try.runUnderlying35 rfl Try.sizeOf3 rfl rfl rfl) rfl ?_
          refine O.q (Qt.ld rfl (Cel.var 4 rfl) (o := 0) (off := 1) rfl (Cut.one Try.isAgg3 rfl)) rfl ?_
          refine O.l (Lo.call [.agg #[.int .i64 x0, .int .i64 x1, .int .i64 x2, .int .i64 x3, .int .i64 x4, .int .i64 x5, .int .i64 x6, .int .i64 ph, v12], .int .i64 ac, .int .i64 cd] (by exact Try.call14) rfl (jb_HeardNo x0 x1 x2 x3 x4 x5 x6 ph v12 (Jb.rising js) ac cd (by first | omega | (simp; done) | (have h_ := Jb.rising_len (l := js); first | omega | (have h2_ := Jb.without_len (l := Jb.rising js) (c := ac); omega)) | (have h_ := Jb.rising_len (l := l); omega)) (.inl (of_decide_eq_false h48))) [] [0, 1, 2, 3, 4, 5] (by decide) rfl [var g109 [.int .i64 0, .int .i64 0, .int .i64 0, .int .i64 0, .int .i64 0, .int .i64 0, .int .i64 0, .int .i64 0, Value.slice none 0 0] 28, var g107 [.int .i64 0, .int .i64 0, .int .i64 0, .int .i64 0, .int .i64 0, .int .i64 0, .int .i64 0, .int .i64 0, Value.slice none 0 0] 28, row (Value.slice none 0 0) 3 1 (([] : List Int).map encZ), row v12 3 1 ((Jb.rising js).map encZ), var g3 [.int .i64 ac, .int .i64 cd] 35, var g1 [.int .i64 x0, .int .i64 x1, .int .i64 x2, .int .i64 x3, .int .i64 x4, .int .i64 x5, .int .i64 x6, .int .i64 ph, v12] 28] rfl (RoOk.of 3 rfl row_rd [] (by decide) rfl RoOk.nil)) rfl ?_
          rintro _ _ ⟨_, ⟨V110, rfl, rfl⟩, rfl⟩
          refine O.p (Pu.move rfl) rfl ?_
          refine O.p (Pu.extract rfl rfl) rfl ?_
          refine O.p (Pu.extract rfl rfl) rfl ?_
          refine O.l (Lo.alloc [.int .i64 0, .int .i64 0, .int .i64 0, .int .i64 0, .int .i64 0, .int .i64 0, .int .i64 0, .int .i64 0, Value.slice none 0 0] (by exact Try.zeroValue28) rfl) rfl ?_
          rintro _ _ ⟨g112, rfl, rfl⟩
          refine O.one (Src.row 1 rfl) (fun hV113 => ?_)
          refine O.l0 (Lo.store 0 (vs := [.int .i64 x0, .int .i64 x1, .int .i64 x2, .int .i64 x3, .int .i64 x4, .int .i64 x5, .int .i64 x6, .int .i64 ph, V110]) [.int .i64 x0, .int .i64 x1, .int .i64 x2, .int .i64 x3, .int .i64 x4, .int .i64 x5, .int .i64 x6, .int .i64 ph, V110] rfl rfl rfl (by exact Try.sizeOf28) rfl rfl (by simp only [List.all_cons, List.all_nil, Bool.and_true, hV113] <;> rfl) rfl rfl) ?_
          rintro _ _ rfl
          refine O.p (Pu.assign rfl) rfl ?_
          refine O.nil ?_
          refine J.seq ?_
          refine J.region ?_
          refine O.q (Qt.ld rfl (Cel.var 7 rfl) (o := 0) (off := 0) rfl (Cut.agg [.int .i64 x0, .int .i64 x1, .int .i64 x2, .int .i64 x3, .int .i64 x4, .int .i64 x5, .int .i64 x6, .int .i64 ph, v12] Try.isAgg28 Try.sizeOf28 rfl rfl)) rfl ?_
          refine O.p (Pu.fieldAddr (off' := 0) Try.runUnderlying35 rfl Try.sizeOf3 rfl rfl rfl) rfl ?_
          refine O.q (Qt.ld rfl (Cel.var 6 rfl) (o := 0) (off := 0) rfl (Cut.one Try.isAgg3 rfl)) rfl ?_
          refine O.p (Pu.fieldAddr (off' := 1) Try.runUnderlying35 rfl Try.sizeOf3 rfl rfl rfl) rfl ?_
          refine O.q (Qt.ld rfl (Cel.var 6 rfl) (o := 0) (off := 1) rfl (Cut.one Try.isAgg3 rfl)) rfl ?_
          refine O.l (Lo.call [.agg #[.int .i64 x0, .int .i64 x1, .int .i64 x2, .int .i64 x3, .int .i64 x4, .int .i64 x5, .int .i64 x6, .int .i64 ph, v12], .int .i64 ac, .int .i64 cd] (by exact Try.call33) rfl (r32_HeardNo x0 x1 x2 x3 x4 x5 x6 ph v12 (Jb.rising js) ac cd (by first | omega | (simp; done) | (have h_ := Jb.rising_len (l := js); first | omega | (have h2_ := Jb.without_len (l := Jb.rising js) (c := ac); omega)) | (have h_ := Jb.rising_len (l := l); omega)) (.inl (of_decide_eq_false h48))) [] [0, 1, 2, 3, 4, 5, 6, 7] (by decide) rfl [var g112 [.int .i64 x0, .int .i64 x1, .int .i64 x2, .int .i64 x3, .int .i64 x4, .int .i64 x5, .int .i64 x6, .int .i64 ph, V110] 28, row V110 3 1 ((Jb.rising js).map encZ), var g109 [.int .i64 0, .int .i64 0, .int .i64 0, .int .i64 0, .int .i64 0, .int .i64 0, .int .i64 0, .int .i64 0, Value.slice none 0 0] 28, var g107 [.int .i64 0, .int .i64 0, .int .i64 0, .int .i64 0, .int .i64 0, .int .i64 0, .int .i64 0, .int .i64 0, Value.slice none 0 0] 28, row (Value.slice none 0 0) 3 1 (([] : List Int).map encZ), row v12 3 1 ((Jb.rising js).map encZ), var g3 [.int .i64 ac, .int .i64 cd] 35, var g1 [.int .i64 x0, .int .i64 x1, .int .i64 x2, .int .i64 x3, .int .i64 x4, .int .i64 x5, .int .i64 x6, .int .i64 ph, v12] 28] rfl (RoOk.of 5 rfl row_rd [] (by decide) rfl RoOk.nil)) rfl ?_
          rintro _ _ ⟨_, ⟨rfl, rfl⟩, rfl⟩
          refine O.p (Pu.move rfl) rfl ?_
          refine O.p (Pu.extract rfl rfl) rfl ?_
          refine O.p (Pu.extract rfl rfl) rfl ?_
          refine O.l (Lo.alloc [.int .i64 0, .int .i64 0, .int .i64 0, .int .i64 0, .int .i64 0, .int .i64 0, .int .i64 0, .int .i64 0, Value.slice none 0 0] (by exact Try.zeroValue28) rfl) rfl ?_
          rintro _ _ ⟨g115, rfl, rfl⟩
          refine O.l0 (Lo.store 0 (vs := [.int .i64 x0, .int .i64 x1, .int .i64 x2, .int .i64 x3, .int .i64 x4, .int .i64 x5, .int .i64 x6, .int .i64 ph, v12]) [.int .i64 x0, .int .i64 x1, .int .i64 x2, .int .i64 x3, .int .i64 x4, .int .i64 x5, .int .i64 x6, .int .i64 ph, v12] rfl rfl rfl (by exact Try.sizeOf28) rfl rfl (by simp only [List.all_cons, List.all_nil, Bool.and_true, hV13] <;> rfl) rfl rfl) ?_
          rintro _ _ rfl
          refine O.p (Pu.assign rfl) rfl ?_
          refine O.nil ?_
          refine J.seq ?_
          refine J.region ?_
          refine O.q (Qt.ld rfl (Cel.var 8 rfl) (o := 0) (off := 0) rfl (Cut.agg [.int .i64 x0, .int .i64 x1, .int .i64 x2, .int .i64 x3, .int .i64 x4, .int .i64 x5, .int .i64 x6, .int .i64 ph, v12] Try.isAgg28 Try.sizeOf28 rfl rfl)) rfl ?_
          refine O.l (Lo.call [.agg #[.int .i64 x0, .int .i64 x1, .int .i64 x2, .int .i64 x3, .int .i64 x4, .int .i64 x5, .int .i64 x6, .int .i64 ph, v12]] (by exact Try.call34) rfl (jb_BrokenNo x0 x1 x2 x3 x4 x5 x6 ph v12 hV13 (of_decide_eq_false h14)) [] [0, 1, 2, 3, 4, 5, 6, 7, 8] (by decide) rfl [var g115 [.int .i64 x0, .int .i64 x1, .int .i64 x2, .int .i64 x3, .int .i64 x4, .int .i64 x5, .int .i64 x6, .int .i64 ph, v12] 28, var g112 [.int .i64 x0, .int .i64 x1, .int .i64 x2, .int .i64 x3, .int .i64 x4, .int .i64 x5, .int .i64 x6, .int .i64 ph, V110] 28, row V110 3 1 ((Jb.rising js).map encZ), var g109 [.int .i64 0, .int .i64 0, .int .i64 0, .int .i64 0, .int .i64 0, .int .i64 0, .int .i64 0, .int .i64 0, Value.slice none 0 0] 28, var g107 [.int .i64 0, .int .i64 0, .int .i64 0, .int .i64 0, .int .i64 0, .int .i64 0, .int .i64 0, .int .i64 0, Value.slice none 0 0] 28, row (Value.slice none 0 0) 3 1 (([] : List Int).map encZ), row v12 3 1 ((Jb.rising js).map encZ), var g3 [.int .i64 ac, .int .i64 cd] 35, var g1 [.int .i64 x0, .int .i64 x1, .int .i64 x2, .int .i64 x3, .int .i64 x4, .int .i64 x5, .int .i64 x6, .int .i64 ph, v12] 28] rfl RoOk.nil) rfl ?_
          rintro _ _ ⟨_, ⟨rfl, rfl⟩, rfl⟩
          refine O.p (Pu.move rfl) rfl ?_
          refine O.p (Pu.extract rfl rfl) rfl ?_
          refine O.p (Pu.extract rfl rfl) rfl ?_
          refine O.p (Pu.assign rfl) rfl ?_
          refine O.p (Pu.assign rfl) rfl ?_
          refine O.nil ?_
          refine J.seq ?_
          refine J.seq ?_
          refine J.drawMix [(0, false), (1, false), (2, false), (3, false), (4, false), (5, false), (6, false), (7, false), (8, false), (9, false), (10, false), (11, false), (12, false), (13, false), (14, false), (15, false), (16, false), (17, false), (18, false), (19, false), (20, false), (21, false), (22, false), (23, false), (24, false), (25, false), (26, false), (27, false), (28, false), (29, false), (30, false), (31, false), (32, false), (33, false), (34, false), (35, false), (36, false), (37, false), (38, false), (39, false), (40, false), (41, false), (42, false), (43, false), (44, false), (45, false), (46, false), (47, false), (48, false), (49, false), (50, false), (51, false), (52, false), (53, false), (54, false), (55, false), (56, false), (57, false), (58, false), (59, false), (60, false), (61, false), (62, false), (63, false)] [0, 1, 2, 3, 4, 5, 6, 7, 8] [var g115 [.int .i64 x0, .int .i64 x1, .int .i64 x2, .int .i64 x3, .int .i64 x4, .int .i64 x5, .int .i64 x6, .int .i64 ph, v12] 28, var g112 [.int .i64 x0, .int .i64 x1, .int .i64 x2, .int .i64 x3, .int .i64 x4, .int .i64 x5, .int .i64 x6, .int .i64 ph, V110] 28, row V110 3 1 ((Jb.rising js).map encZ), var g109 [.int .i64 0, .int .i64 0, .int .i64 0, .int .i64 0, .int .i64 0, .int .i64 0, .int .i64 0, .int .i64 0, Value.slice none 0 0] 28, var g107 [.int .i64 0, .int .i64 0, .int .i64 0, .int .i64 0, .int .i64 0, .int .i64 0, .int .i64 0, .int .i64 0, Value.slice none 0 0] 28, row (Value.slice none 0 0) 3 1 (([] : List Int).map encZ), row v12 3 1 ((Jb.rising js).map encZ), var g3 [.int .i64 ac, .int .i64 cd] 35, var g1 [.int .i64 x0, .int .i64 x1, .int .i64 x2, .int .i64 x3, .int .i64 x4, .int .i64 x5, .int .i64 x6, .int .i64 ph, v12] 28] Try.mixed (by kernel_rfl) (by decide) rfl ?_
          refine Mx.q rfl (Qt.ld rfl (Cel.var 4 rfl) (o := 0) (off := 0) rfl (Cut.agg [.int .i64 0, .int .i64 0, .int .i64 0, .int .i64 0, .int .i64 0, .int .i64 0, .int .i64 0, .int .i64 0, Value.slice none 0 0] Try.isAgg28 Try.sizeOf28 rfl rfl)) rfl ?_
          refine Mx.q rfl (Qt.ld rfl (Cel.var 3 rfl) (o := 0) (off := 0) rfl (Cut.agg [.int .i64 0, .int .i64 0, .int .i64 0, .int .i64 0, .int .i64 0, .int .i64 0, .int .i64 0, .int .i64 0, Value.slice none 0 0] Try.isAgg28 Try.sizeOf28 rfl rfl)) rfl ?_
          refine Mx.call (vs := [.agg #[.int .i64 0, .int .i64 0, .int .i64 0, .int .i64 0, .int .i64 0, .int .i64 0, .int .i64 0, .int .i64 0, Value.slice none 0 0], .agg #[.int .i64 0, .int .i64 0, .int .i64 0, .int .i64 0, .int .i64 0, .int .i64 0, .int .i64 0, .int .i64 0, Value.slice none 0 0]]) (caps := []) rfl (by exact Try.call15) rfl rfl (r32_Same 0 0 0 0 0 0 0 0 (Value.slice none 0 0) ([] : List Int) 0 0 0 0 0 0 0 0 (Value.slice none 0 0) ([] : List Int) (by first | omega | (simp; done) | (have h_ := Jb.rising_len (l := js); first | omega | (have h2_ := Jb.without_len (l := Jb.rising js) (c := ac); omega)) | (have h_ := Jb.rising_len (l := l); omega)) (by first | omega | (simp; done) | (have h_ := Jb.rising_len (l := js); first | omega | (have h2_ := Jb.without_len (l := Jb.rising js) (c := ac); omega)) | (have h_ := Jb.rising_len (l := l); omega))) (fun _ _ h => h) (RoOk.of 5 rfl row_rd [] (by decide) rfl (RoOk.of 5 rfl row_rd [] (by decide) rfl RoOk.nil)) rfl ?_
          refine Mx.p rfl (Pu.not rfl) rfl ?_
          refine Mx.p rfl (Pu.move rfl) rfl ?_
          refine Mx.gq (t := 74) rfl rfl rfl (not_of_true (by simp)) rfl (Pu.qt (Pu.move rfl)) rfl ?_
          refine Mx.gq (t := 74) rfl rfl rfl (not_of_true (by simp)) rfl (Pu.qt (Pu.move rfl)) rfl ?_
          refine Mx.gq (t := 74) rfl rfl rfl (not_of_true (by simp)) rfl (Pu.qt (Pu.neq rfl rfl)) rfl ?_
          refine Mx.p rfl (Pu.pickF rfl (not_of_true (by simp)) rfl) rfl ?_
          refine Mx.p rfl (Pu.move rfl) rfl ?_
          refine Mx.gq (t := 79) rfl rfl rfl rfl rfl (Pu.qt (Pu.move rfl)) rfl ?_
          refine Mx.gq (t := 79) rfl rfl rfl rfl rfl (Pu.qt (Pu.move rfl)) rfl ?_
          refine Mx.gq (t := 79) rfl rfl rfl rfl rfl (Pu.qt (Pu.neq rfl rfl)) rfl ?_
          refine Mx.p rfl (Pu.pickF rfl rfl rfl) rfl ?_
          refine Mx.p rfl (Pu.move rfl) rfl ?_
          refine Mx.gq (t := 84) rfl rfl rfl rfl rfl (Qt.ld rfl (Cel.var 1 rfl) (o := 0) (off := 0) rfl (Cut.agg [.int .i64 x0, .int .i64 x1, .int .i64 x2, .int .i64 x3, .int .i64 x4, .int .i64 x5, .int .i64 x6, .int .i64 ph, V110] Try.isAgg28 Try.sizeOf28 rfl rfl)) rfl ?_
          refine Mx.gq (t := 84) rfl rfl rfl rfl rfl (Qt.ld rfl (Cel.var 0 rfl) (o := 0) (off := 0) rfl (Cut.agg [.int .i64 x0, .int .i64 x1, .int .i64 x2, .int .i64 x3, .int .i64 x4, .int .i64 x5, .int .i64 x6, .int .i64 ph, v12] Try.isAgg28 Try.sizeOf28 rfl rfl)) rfl ?_
          refine Mx.gcall (vs := [.agg #[.int .i64 x0, .int .i64 x1, .int .i64 x2, .int .i64 x3, .int .i64 x4, .int .i64 x5, .int .i64 x6, .int .i64 ph, V110], .agg #[.int .i64 x0, .int .i64 x1, .int .i64 x2, .int .i64 x3, .int .i64 x4, .int .i64 x5, .int .i64 x6, .int .i64 ph, v12]]) (caps := []) (t := 84) rfl rfl rfl rfl rfl (by exact Try.call15) rfl rfl (r32_Same x0 x1 x2 x3 x4 x5 x6 ph V110 (Jb.rising js) x0 x1 x2 x3 x4 x5 x6 ph v12 (Jb.rising js) (by first | omega | (simp; done) | (have h_ := Jb.rising_len (l := js); first | omega | (have h2_ := Jb.without_len (l := Jb.rising js) (c := ac); omega)) | (have h_ := Jb.rising_len (l := l); omega)) (by first | omega | (simp; done) | (have h_ := Jb.rising_len (l := js); first | omega | (have h2_ := Jb.without_len (l := Jb.rising js) (c := ac); omega)) | (have h_ := Jb.rising_len (l := l); omega))) (fun _ _ h => h) (RoOk.of 2 rfl row_rd [] (by decide) rfl (RoOk.of 6 rfl row_rd [] (by decide) rfl RoOk.nil)) rfl ?_
          refine Mx.gq (t := 84) rfl rfl rfl rfl rfl (Pu.qt (Pu.not rfl)) rfl ?_
          refine Mx.p rfl (Pu.pickF rfl rfl rfl) rfl ?_
          refine Mx.p rfl (Pu.move rfl) rfl ?_
          refine Mx.gq (t := 90) rfl rfl rfl (not_of_true (by simp)) rfl (Pu.qt (Pu.move rfl)) rfl ?_
          refine Mx.gq (t := 90) rfl rfl rfl (not_of_true (by simp)) rfl (Pu.qt (Pu.move rfl)) rfl ?_
          refine Mx.gq (t := 90) rfl rfl rfl (not_of_true (by simp)) rfl (Pu.qt (Pu.neq rfl rfl)) rfl ?_
          refine Mx.p rfl (Pu.pickF rfl (not_of_true (by simp)) rfl) rfl ?_
          refine Mx.p rfl (Pu.move rfl) rfl ?_
          refine Mx.gq (t := 95) rfl rfl rfl rfl rfl (Qt.ld rfl (Cel.var 8 rfl) (o := 0) (off := 0) rfl (Cut.agg [.int .i64 x0, .int .i64 x1, .int .i64 x2, .int .i64 x3, .int .i64 x4, .int .i64 x5, .int .i64 x6, .int .i64 ph, v12] Try.isAgg28 Try.sizeOf28 rfl rfl)) rfl ?_
          refine Mx.gq (t := 95) rfl rfl rfl rfl rfl (Pu.qt (Pu.fieldAddr (off' := 1) Try.runUnderlying35 rfl Try.sizeOf3 rfl rfl rfl)) rfl ?_
          refine Mx.gq (t := 95) rfl rfl rfl rfl rfl (Qt.ld rfl (Cel.var 7 rfl) (o := 0) (off := 1) rfl (Cut.one Try.isAgg3 rfl)) rfl ?_
          refine Mx.gcall (vs := [.agg #[.int .i64 x0, .int .i64 x1, .int .i64 x2, .int .i64 x3, .int .i64 x4, .int .i64 x5, .int .i64 x6, .int .i64 ph, v12], .int .i64 cd]) (caps := []) (t := 95) rfl rfl rfl rfl rfl (by exact Try.call35) rfl rfl (jb_Ends x0 x1 x2 x3 x4 x5 x6 ph cd v12 hV13) (fun _ _ h => h) RoOk.nil rfl ?_
          refine Mx.gq (t := 95) rfl rfl rfl rfl rfl (Qt.ld rfl (Cel.var 8 rfl) (o := 0) (off := 0) rfl (Cut.agg [.int .i64 x0, .int .i64 x1, .int .i64 x2, .int .i64 x3, .int .i64 x4, .int .i64 x5, .int .i64 x6, .int .i64 ph, v12] Try.isAgg28 Try.sizeOf28 rfl rfl)) rfl ?_
          refine Mx.gq (t := 95) rfl rfl rfl rfl rfl (Pu.qt (Pu.fieldAddr (off' := 1) Try.runUnderlying35 rfl Try.sizeOf3 rfl rfl rfl)) rfl ?_
          refine Mx.gq (t := 95) rfl rfl rfl rfl rfl (Qt.ld rfl (Cel.var 7 rfl) (o := 0) (off := 1) rfl (Cut.one Try.isAgg3 rfl)) rfl ?_
          refine Mx.gcall (vs := [.agg #[.int .i64 x0, .int .i64 x1, .int .i64 x2, .int .i64 x3, .int .i64 x4, .int .i64 x5, .int .i64 x6, .int .i64 ph, v12], .int .i64 cd]) (caps := []) (t := 95) rfl rfl rfl rfl rfl (by exact Try.call36) rfl rfl (r32_Ends x0 x1 x2 x3 x4 x5 x6 ph cd v12 hV13) (fun _ _ h => h) RoOk.nil rfl ?_
          refine Mx.gq (t := 95) rfl rfl rfl rfl rfl (Pu.qt (Pu.neq rfl rfl)) rfl ?_
          refine Mx.p rfl (Pu.pickF rfl rfl rfl) rfl ?_
          refine Mx.p rfl (Pu.move rfl) rfl ?_
          refine Mx.gq (t := 106) rfl rfl rfl (by simp) rfl (Pu.qt (Pu.move rfl)) rfl ?_
          refine Mx.gq (t := 106) rfl rfl rfl (by simp) rfl (Pu.qt (Pu.eql rfl rfl)) rfl ?_
          refine Mx.gq (t := 106) rfl rfl rfl (by simp) rfl (Pu.qt (Pu.fieldAddr (off' := 7) Try.runUnderlying28 rfl Try.sizeOf3 rfl rfl rfl)) rfl ?_
          refine Mx.gq (t := 106) rfl rfl rfl (by simp) rfl (Qt.ld rfl (Cel.var 8 rfl) (o := 0) (off := 7) rfl (Cut.one Try.isAgg3 rfl)) rfl ?_
          refine Mx.gq (t := 106) rfl rfl rfl (by simp) rfl (Pu.qt (Pu.eql rfl rfl)) rfl ?_
          refine Mx.gq (t := 106) rfl rfl rfl (by simp) rfl (Pu.qt (Pu.bneq Try.underlying4 rfl rfl)) rfl ?_
          refine Mx.p rfl (Pu.pickF rfl (by simp) rfl) rfl ?_
          refine Mx.p rfl (Pu.move rfl) rfl ?_
          refine Mx.gq (t := 114) rfl rfl rfl (by rw [decide_eq_false (by assumption : ¬ ph = 1)]; decide) rfl (Pu.qt (Pu.move rfl)) rfl ?_
          refine Mx.gq (t := 114) rfl rfl rfl (by rw [decide_eq_false (by assumption : ¬ ph = 1)]; decide) rfl (Pu.qt (Pu.eql rfl rfl)) rfl ?_
          refine Mx.gq (t := 114) rfl rfl rfl (by rw [decide_eq_false (by assumption : ¬ ph = 1)]; decide) rfl (Pu.qt (Pu.move rfl)) rfl ?_
          refine Mx.gskip (t := 117) rfl rfl rfl (no_bool (by decide)) rfl rfl ?_
          refine Mx.gskip (t := 117) rfl rfl rfl (no_bool (by decide)) rfl rfl ?_
          refine Mx.gq (t := 114) rfl rfl rfl (by rw [decide_eq_false (by assumption : ¬ ph = 1)]; decide) rfl (Pu.qt (Pu.pickF rfl rfl rfl)) rfl ?_
          refine Mx.p rfl (Pu.pickF rfl (by rw [decide_eq_false (by assumption : ¬ ph = 1)]; decide) rfl) rfl ?_
          refine Mx.p rfl (Pu.move rfl) rfl ?_
          refine Mx.gq (t := 122) rfl rfl rfl rfl rfl (Pu.qt (Pu.move rfl)) rfl ?_
          refine Mx.gq (t := 122) rfl rfl rfl rfl rfl (Pu.qt (Pu.neq rfl rfl)) rfl ?_
          refine Mx.gq (t := 122) rfl rfl rfl rfl rfl (Pu.qt (Pu.move rfl)) rfl ?_
          refine Mx.gq (t := 125) rfl rfl rfl rfl rfl (Pu.qt (Pu.move rfl)) rfl ?_
          refine Mx.gq (t := 125) rfl rfl rfl rfl rfl (Pu.qt (Pu.neq rfl rfl)) rfl ?_
          refine Mx.gq (t := 125) rfl rfl rfl rfl rfl (Pu.qt (Pu.move rfl)) rfl ?_
          refine Mx.gq (t := 128) rfl rfl rfl rfl rfl (Pu.qt (Pu.move rfl)) rfl ?_
          refine Mx.gq (t := 128) rfl rfl rfl rfl rfl (Pu.qt (Pu.neq rfl rfl)) rfl ?_
          refine Mx.gq (t := 125) rfl rfl rfl rfl rfl (Pu.qt (Pu.pickF rfl rfl rfl)) rfl ?_
          refine Mx.gq (t := 122) rfl rfl rfl rfl rfl (Pu.qt (Pu.pickT rfl rfl rfl)) rfl ?_
          refine Mx.p rfl (Pu.pickF rfl rfl rfl) rfl ?_
          refine Mx.nil ?_
          refine J.condF rfl rfl ?_
          refine J.skip ?_
          refine J.seq ?_
          refine J.drawMix [(0, false), (1, false), (2, false), (3, false), (4, false), (5, false), (6, false), (7, false), (8, false), (9, false), (10, false), (11, false), (12, false), (13, false), (14, false), (15, false), (16, false), (17, false), (18, false), (19, false), (20, false), (21, false), (22, true), (23, false), (24, false)] [0, 1, 2, 3, 4, 5, 6, 8] [var g115 [.int .i64 x0, .int .i64 x1, .int .i64 x2, .int .i64 x3, .int .i64 x4, .int .i64 x5, .int .i64 x6, .int .i64 ph, v12] 28, var g112 [.int .i64 x0, .int .i64 x1, .int .i64 x2, .int .i64 x3, .int .i64 x4, .int .i64 x5, .int .i64 x6, .int .i64 ph, V110] 28, row V110 3 1 ((Jb.rising js).map encZ), var g109 [.int .i64 0, .int .i64 0, .int .i64 0, .int .i64 0, .int .i64 0, .int .i64 0, .int .i64 0, .int .i64 0, Value.slice none 0 0] 28, var g107 [.int .i64 0, .int .i64 0, .int .i64 0, .int .i64 0, .int .i64 0, .int .i64 0, .int .i64 0, .int .i64 0, Value.slice none 0 0] 28, row (Value.slice none 0 0) 3 1 (([] : List Int).map encZ), row v12 3 1 ((Jb.rising js).map encZ), var g1 [.int .i64 x0, .int .i64 x1, .int .i64 x2, .int .i64 x3, .int .i64 x4, .int .i64 x5, .int .i64 x6, .int .i64 ph, v12] 28] Try.mixed (by kernel_rfl) (by decide) rfl ?_
          refine Mx.q rfl (Qt.ld rfl (Cel.var 4 rfl) (o := 0) (off := 0) rfl (Cut.agg [.int .i64 0, .int .i64 0, .int .i64 0, .int .i64 0, .int .i64 0, .int .i64 0, .int .i64 0, .int .i64 0, Value.slice none 0 0] Try.isAgg28 Try.sizeOf28 rfl rfl)) rfl ?_
          refine Mx.q rfl (Qt.ld rfl (Cel.var 1 rfl) (o := 0) (off := 0) rfl (Cut.agg [.int .i64 x0, .int .i64 x1, .int .i64 x2, .int .i64 x3, .int .i64 x4, .int .i64 x5, .int .i64 x6, .int .i64 ph, V110] Try.isAgg28 Try.sizeOf28 rfl rfl)) rfl ?_
          refine Mx.call (vs := [.agg #[.int .i64 0, .int .i64 0, .int .i64 0, .int .i64 0, .int .i64 0, .int .i64 0, .int .i64 0, .int .i64 0, Value.slice none 0 0], .agg #[.int .i64 x0, .int .i64 x1, .int .i64 x2, .int .i64 x3, .int .i64 x4, .int .i64 x5, .int .i64 x6, .int .i64 ph, V110]]) (caps := []) rfl (by exact Try.call37) rfl rfl (jb_Same 0 0 0 0 0 0 0 0 (Value.slice none 0 0) ([] : List Int) x0 x1 x2 x3 x4 x5 x6 ph V110 (Jb.rising js) (by first | omega | (simp; done) | (have h_ := Jb.rising_len (l := js); first | omega | (have h2_ := Jb.without_len (l := Jb.rising js) (c := ac); omega)) | (have h_ := Jb.rising_len (l := l); omega)) (by first | omega | (simp; done) | (have h_ := Jb.rising_len (l := js); first | omega | (have h2_ := Jb.without_len (l := Jb.rising js) (c := ac); omega)) | (have h_ := Jb.rising_len (l := l); omega))) (fun _ _ h => h) (RoOk.of 5 rfl row_rd [] (by decide) rfl (RoOk.of 2 rfl row_rd [] (by decide) rfl RoOk.nil)) rfl ?_
          refine Mx.q rfl (Qt.ld rfl (Cel.var 3 rfl) (o := 0) (off := 0) rfl (Cut.agg [.int .i64 0, .int .i64 0, .int .i64 0, .int .i64 0, .int .i64 0, .int .i64 0, .int .i64 0, .int .i64 0, Value.slice none 0 0] Try.isAgg28 Try.sizeOf28 rfl rfl)) rfl ?_
          refine Mx.q rfl (Qt.ld rfl (Cel.var 0 rfl) (o := 0) (off := 0) rfl (Cut.agg [.int .i64 x0, .int .i64 x1, .int .i64 x2, .int .i64 x3, .int .i64 x4, .int .i64 x5, .int .i64 x6, .int .i64 ph, v12] Try.isAgg28 Try.sizeOf28 rfl rfl)) rfl ?_
          refine Mx.call (vs := [.agg #[.int .i64 0, .int .i64 0, .int .i64 0, .int .i64 0, .int .i64 0, .int .i64 0, .int .i64 0, .int .i64 0, Value.slice none 0 0], .agg #[.int .i64 x0, .int .i64 x1, .int .i64 x2, .int .i64 x3, .int .i64 x4, .int .i64 x5, .int .i64 x6, .int .i64 ph, v12]]) (caps := []) rfl (by exact Try.call15) rfl rfl (r32_Same 0 0 0 0 0 0 0 0 (Value.slice none 0 0) ([] : List Int) x0 x1 x2 x3 x4 x5 x6 ph v12 (Jb.rising js) (by first | omega | (simp; done) | (have h_ := Jb.rising_len (l := js); first | omega | (have h2_ := Jb.without_len (l := Jb.rising js) (c := ac); omega)) | (have h_ := Jb.rising_len (l := l); omega)) (by first | omega | (simp; done) | (have h_ := Jb.rising_len (l := js); first | omega | (have h2_ := Jb.without_len (l := Jb.rising js) (c := ac); omega)) | (have h_ := Jb.rising_len (l := l); omega))) (fun _ _ h => h) (RoOk.of 5 rfl row_rd [] (by decide) rfl (RoOk.of 6 rfl row_rd [] (by decide) rfl RoOk.nil)) rfl ?_
          refine Mx.p rfl (Pu.beql Try.underlying4 rfl rfl) rfl ?_
          refine Mx.p rfl (Pu.move rfl) rfl ?_
          refine Mx.gq (t := 141) rfl rfl rfl (by simp) rfl (Qt.ld rfl (Cel.var 7 rfl) (o := 0) (off := 0) rfl (Cut.agg [.int .i64 x0, .int .i64 x1, .int .i64 x2, .int .i64 x3, .int .i64 x4, .int .i64 x5, .int .i64 x6, .int .i64 ph, v12] Try.isAgg28 Try.sizeOf28 rfl rfl)) rfl ?_
          refine Mx.gq (t := 141) rfl rfl rfl (by simp) rfl (Qt.ld rfl (Cel.var 7 rfl) (o := 0) (off := 0) rfl (Cut.agg [.int .i64 x0, .int .i64 x1, .int .i64 x2, .int .i64 x3, .int .i64 x4, .int .i64 x5, .int .i64 x6, .int .i64 ph, v12] Try.isAgg28 Try.sizeOf28 rfl rfl)) rfl ?_
          refine Mx.gcall (vs := [.agg #[.int .i64 x0, .int .i64 x1, .int .i64 x2, .int .i64 x3, .int .i64 x4, .int .i64 x5, .int .i64 x6, .int .i64 ph, v12], .agg #[.int .i64 x0, .int .i64 x1, .int .i64 x2, .int .i64 x3, .int .i64 x4, .int .i64 x5, .int .i64 x6, .int .i64 ph, v12]]) (caps := []) (t := 141) rfl rfl rfl (by simp) rfl (by exact Try.call37) rfl rfl (jb_Same x0 x1 x2 x3 x4 x5 x6 ph v12 (Jb.rising js) x0 x1 x2 x3 x4 x5 x6 ph v12 (Jb.rising js) (by first | omega | (simp; done) | (have h_ := Jb.rising_len (l := js); first | omega | (have h2_ := Jb.without_len (l := Jb.rising js) (c := ac); omega)) | (have h_ := Jb.rising_len (l := l); omega)) (by first | omega | (simp; done) | (have h_ := Jb.rising_len (l := js); first | omega | (have h2_ := Jb.without_len (l := Jb.rising js) (c := ac); omega)) | (have h_ := Jb.rising_len (l := l); omega))) (fun _ _ h => h) (RoOk.of 6 rfl row_rd [] (by decide) rfl (RoOk.of 6 rfl row_rd [] (by decide) rfl RoOk.nil)) rfl ?_
          refine Mx.p rfl (Pu.pickT rfl (by simp) rfl) rfl ?_
          refine Mx.p rfl (Pu.move rfl) rfl ?_
          refine Mx.gq (t := 146) rfl rfl rfl (by simp) rfl (Pu.qt (Pu.fieldAddr (off' := 0) Try.runUnderlying28 rfl Try.sizeOf23 rfl rfl rfl)) rfl ?_
          refine Mx.gq (t := 146) rfl rfl rfl (by simp) rfl (Qt.ld rfl (Cel.var 7 rfl) (o := 0) (off := 0) rfl (Cut.agg [.int .i64 x0, .int .i64 x1, .int .i64 x2, .int .i64 x3, .int .i64 x4, .int .i64 x5, .int .i64 x6] Try.isAgg23 Try.sizeOf23 rfl rfl)) rfl ?_
          refine Mx.gcall (vs := [.agg #[.int .i64 x0, .int .i64 x1, .int .i64 x2, .int .i64 x3, .int .i64 x4, .int .i64 x5, .int .i64 x6]]) (caps := []) (t := 146) rfl rfl rfl (by simp) rfl (by exact Try.call13) rfl rfl (jb_New x0 x1 x2 x3 x4 x5 x6) (fun _ _ h => h) RoOk.nil rfl ?_
          refine Mx.gq (t := 146) rfl rfl rfl (by simp) rfl (Pu.qt (Pu.fieldAddr (off' := 0) Try.runUnderlying28 rfl Try.sizeOf23 rfl rfl rfl)) rfl ?_
          refine Mx.gq (t := 146) rfl rfl rfl (by simp) rfl (Qt.ld rfl (Cel.var 7 rfl) (o := 0) (off := 0) rfl (Cut.agg [.int .i64 x0, .int .i64 x1, .int .i64 x2, .int .i64 x3, .int .i64 x4, .int .i64 x5, .int .i64 x6] Try.isAgg23 Try.sizeOf23 rfl rfl)) rfl ?_
          refine Mx.gq (t := 146) rfl rfl rfl (by simp) rfl (Pu.qt (Pu.build [(0, .agg #[.int .i64 x0, .int .i64 x1, .int .i64 x2, .int .i64 x3, .int .i64 x4, .int .i64 x5, .int .i64 x6]), (1, .int .i64 1)] [.int .i64 x0, .int .i64 x1, .int .i64 x2, .int .i64 x3, .int .i64 x4, .int .i64 x5, .int .i64 x6, .int .i64 1, Value.slice none 0 0] #[(0, 7), (7, 1), (8, 1)] Try.runUnderlying28 Try.zeroValue28 (places28 Try.underlying28) rfl (by kernel_rfl))) rfl ?_
          refine Mx.gcall (vs := [.agg #[.int .i64 x0, .int .i64 x1, .int .i64 x2, .int .i64 x3, .int .i64 x4, .int .i64 x5, .int .i64 x6, .int .i64 1, Value.slice none 0 0], .agg #[.int .i64 x0, .int .i64 x1, .int .i64 x2, .int .i64 x3, .int .i64 x4, .int .i64 x5, .int .i64 x6, .int .i64 1, Value.slice none 0 0]]) (caps := []) (t := 146) rfl rfl rfl (by simp) rfl (by exact Try.call15) rfl rfl (r32_Same x0 x1 x2 x3 x4 x5 x6 1 (Value.slice none 0 0) ([] : List Int) x0 x1 x2 x3 x4 x5 x6 1 (Value.slice none 0 0) ([] : List Int) (by first | omega | (simp; done) | (have h_ := Jb.rising_len (l := js); first | omega | (have h2_ := Jb.without_len (l := Jb.rising js) (c := ac); omega)) | (have h_ := Jb.rising_len (l := l); omega)) (by first | omega | (simp; done) | (have h_ := Jb.rising_len (l := js); first | omega | (have h2_ := Jb.without_len (l := Jb.rising js) (c := ac); omega)) | (have h_ := Jb.rising_len (l := l); omega))) (fun _ _ h => h) (RoOk.of 5 rfl row_rd [] (by decide) rfl (RoOk.of 5 rfl row_rd [] (by decide) rfl RoOk.nil)) rfl ?_
          refine Mx.p rfl (Pu.pickT rfl (by simp) rfl) rfl ?_
          refine Mx.p rfl (Pu.move rfl) rfl ?_
          refine Mx.gl (t := 155) rfl rfl rfl (by simp) rfl (Lo.call [] (by exact Try.call11) rfl law32_awake [] [0, 1, 2, 3, 4, 5, 6, 7, 8] (by decide) rfl [var g115 [.int .i64 x0, .int .i64 x1, .int .i64 x2, .int .i64 x3, .int .i64 x4, .int .i64 x5, .int .i64 x6, .int .i64 ph, v12] 28, var g112 [.int .i64 x0, .int .i64 x1, .int .i64 x2, .int .i64 x3, .int .i64 x4, .int .i64 x5, .int .i64 x6, .int .i64 ph, V110] 28, row V110 3 1 ((Jb.rising js).map encZ), var g109 [.int .i64 0, .int .i64 0, .int .i64 0, .int .i64 0, .int .i64 0, .int .i64 0, .int .i64 0, .int .i64 0, Value.slice none 0 0] 28, var g107 [.int .i64 0, .int .i64 0, .int .i64 0, .int .i64 0, .int .i64 0, .int .i64 0, .int .i64 0, .int .i64 0, Value.slice none 0 0] 28, row (Value.slice none 0 0) 3 1 (([] : List Int).map encZ), row v12 3 1 ((Jb.rising js).map encZ), var g3 [.int .i64 ac, .int .i64 cd] 35, var g1 [.int .i64 x0, .int .i64 x1, .int .i64 x2, .int .i64 x3, .int .i64 x4, .int .i64 x5, .int .i64 x6, .int .i64 ph, v12] 28] rfl RoOk.nil) rfl ?_
          rintro _ _ ⟨_, ⟨rfl, rfl⟩, rfl⟩
          refine MxK.go [0, 1, 2, 3, 4, 5, 6, 8] [0, 1, 2, 3, 4, 5, 6, 7] [var g115 [.int .i64 x0, .int .i64 x1, .int .i64 x2, .int .i64 x3, .int .i64 x4, .int .i64 x5, .int .i64 x6, .int .i64 ph, v12] 28, var g112 [.int .i64 x0, .int .i64 x1, .int .i64 x2, .int .i64 x3, .int .i64 x4, .int .i64 x5, .int .i64 x6, .int .i64 ph, V110] 28, row V110 3 1 ((Jb.rising js).map encZ), var g109 [.int .i64 0, .int .i64 0, .int .i64 0, .int .i64 0, .int .i64 0, .int .i64 0, .int .i64 0, .int .i64 0, Value.slice none 0 0] 28, var g107 [.int .i64 0, .int .i64 0, .int .i64 0, .int .i64 0, .int .i64 0, .int .i64 0, .int .i64 0, .int .i64 0, Value.slice none 0 0] 28, row (Value.slice none 0 0) 3 1 (([] : List Int).map encZ), row v12 3 1 ((Jb.rising js).map encZ), var g1 [.int .i64 x0, .int .i64 x1, .int .i64 x2, .int .i64 x3, .int .i64 x4, .int .i64 x5, .int .i64 x6, .int .i64 ph, v12] 28] (by decide) rfl (by decide) rfl ?_
          refine Mx.p rfl (Pu.pickT rfl (by simp) rfl) rfl ?_
          refine Mx.p rfl (Pu.assign rfl) rfl ?_
          refine Mx.nil ?_
          exact J.ret (Fin.ret (rs := [.tmp 6]) rfl [_] ⟨rfl, trivial⟩ [] (by decide) [] rfl ⟨rfl, rfl⟩)

end Go.Proofs.Ytnkhmbbnabejhaa
