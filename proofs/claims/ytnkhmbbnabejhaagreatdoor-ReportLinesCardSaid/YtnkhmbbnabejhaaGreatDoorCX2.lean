/-
  Walks, printed by a program of mine (lk.py): each function meets its contract.
-/
import Derived.KernelRfl
import Derived.Test.YtnkhmbbnabejhaaGreatDoorCX1
namespace Go.Proofs.YtnkhmbbnabejhaaGreatDoor
open Go Go.LK
set_option linter.unusedSimpArgs false

set_option maxRecDepth 100000 in
set_option maxHeartbeats 1000000 in
theorem cf_Numbers (line word : Wd.Bs) (nv : Value) (ns : List Wd.Bs) (hs : line.length ≤ 100000) (hn : ns.length ≤ 900) (hns : ∀ x ∈ ns, x.length ≤ 60000) : Tri Tryz.prog 20 #[str line, str word, nv] [libW, rd nv 1 (ns.map encS)] [] (fun v L' => ∃ V', v = .tuple #[V', .bool (Cf.numbers line word ns).2] ∧ L' = [row V' 3 1 ((Cf.numbers line word ns).1.map encZ)]) := by
 refine Tri.enter (args := [str line, str word, nv]) (body := _) 66 Tryz.func20 rfl Tryz.ntmps20 rfl ?_
 intro w0
 refine J.seq ?_
 refine J.region ?_
 refine O.p (Pu.assign rfl) rfl ?_
 refine O.p (Pu.assign rfl) rfl ?_
 refine O.nil ?_
 refine J.seq ?_
 refine J.region ?_
 refine O.p (Pu.move rfl) rfl ?_
 refine O.l (Lo.call [str line] (by exact Tryz.call52) rfl (w_Words line (by omega)) [] [] (by decide) rfl [] rfl RoOk.nil) rfl ?_
 rintro v1 _ ⟨_, rfl, rfl⟩
 refine O.p (Pu.assign rfl) rfl ?_
 refine O.nil ?_
 refine J.seq ?_
 refine J.seq ?_
 refine J.region ?_
 refine O.p (Pu.move rfl) rfl ?_
 refine O.q (Qt.lenM Tryz.runUnderlying50 rfl (Src.row 0 rfl)) rfl ?_
 refine O.p (Pu.move rfl) rfl ?_
 refine O.q (Qt.lenM Tryz.runUnderlying50 rfl (Src.ro 1 rfl)) rfl ?_
 refine O.p (Pu.add' rfl rfl (by first | omega | (simp only [List.length_append, List.length_cons, List.length_nil, List.length_set]; omega))) rfl ?_
 refine O.p (Pu.neq rfl rfl) rfl ?_
 refine O.p (Pu.move rfl) rfl ?_
 refine by_bool (decide (((Wd.wordsL line).length : Int) ≠ ((ns.length : Int) + 1))) (fun h2 => ?_) (fun h2 => ?_)
 ·
  have p3 := of_decide_eq_true h2
  refine O.gskip (t := 24) rfl rfl (no_bool (by rw [h2]; decide)) rfl rfl ?_
  refine O.gskip (t := 24) rfl rfl (no_bool (by rw [h2]; decide)) rfl rfl ?_
  refine O.gskip (t := 24) rfl rfl (no_bool (by rw [h2]; decide)) rfl rfl ?_
  refine O.gskip (t := 24) rfl rfl (no_bool (by rw [h2]; decide)) rfl rfl ?_
  refine O.gskip (t := 24) rfl rfl (no_bool (by rw [h2]; decide)) rfl rfl ?_
  refine O.p (Pu.pickT rfl h2 rfl) rfl ?_
  refine O.nil ?_
  refine J.condT rfl rfl ?_
  refine J.seq ?_
  refine J.region ?_
  refine O.p (Pu.assign rfl) rfl ?_
  refine O.p (Pu.assign rfl) rfl ?_
  refine O.nil ?_
  refine J.nilRow 3 1 ?_
  exact J.ret (Fin.ret (rs := [.tmp 6, .tmp 7]) rfl [_, _] ⟨rfl, rfl, trivial⟩ [0] (by decide) [row (Value.slice none 0 0) 3 1 (([] : List Int).map encZ)] rfl ⟨Value.slice none 0 0, (by first | (rw [Cf.numbers_few (by omega)]; done) | (rw [Cf.numbers_few (by omega)]; rfl)), (by first | (rw [Cf.numbers_few (by omega)]; done) | (rw [Cf.numbers_few (by omega)]; rfl))⟩)
 ·
  have p4 := of_decide_eq_false h2
  refine O.gq (t := 24) rfl rfl h2 rfl (Pu.qt (Pu.move rfl)) rfl ?_
  obtain ⟨e5, he5⟩ : ∃ x_, (Wd.wordsL line)[0]? = some x_ := ⟨_, List.getElem?_eq_getElem (by first | omega | (have h_ := Wd.words_cut (s := line) ‹_›; omega) | (have h0_ := Cf.num_len hst; simp only [List.length_append, List.length_cons, List.length_nil]; omega) | (have h_ := Wd.words_cut (s := line) ‹_›; exact Nat.le_trans (Cf.cutPre_len _ _) (by omega)) | (simp only [List.length_append, List.length_cons, List.length_nil] at *; omega))⟩
  refine O.gq (t := 24) rfl rfl h2 rfl (Qt.idxM Tryz.runUnderlying50 Tryz.sizeOf9 rfl (Src.row 0 rfl) rfl (by first | omega | (have h_ := Wd.words_cut (s := line) ‹_›; omega) | (have h0_ := Cf.num_len hst; simp only [List.length_append, List.length_cons, List.length_nil]; omega) | (have h_ := Wd.words_cut (s := line) ‹_›; exact Nat.le_trans (Cf.cutPre_len _ _) (by omega)) | (simp only [List.length_append, List.length_cons, List.length_nil] at *; omega)) (by first | omega | (have h_ := Wd.words_cut (s := line) ‹_›; omega) | (have h0_ := Cf.num_len hst; simp only [List.length_append, List.length_cons, List.length_nil]; omega) | (have h_ := Wd.words_cut (s := line) ‹_›; exact Nat.le_trans (Cf.cutPre_len _ _) (by omega)) | (simp only [List.length_append, List.length_cons, List.length_nil] at *; omega))) rfl ?_
  refine O.gq (t := 24) rfl rfl h2 rfl (Qt.ld rfl (Cel.eltM (Src.row 0 rfl) he5) (o := (voff v1 + 0 * 1)) (off := 0) (by omega) (Cut.one Tryz.isAgg9 rfl)) rfl ?_
  refine O.gq (t := 24) rfl rfl h2 rfl (Pu.qt (Pu.move rfl)) rfl ?_
  refine O.gq (t := 24) rfl rfl h2 rfl (Pu.qt (Pu.sNeq rfl rfl)) rfl ?_
  refine O.p (Pu.pickF rfl h2 rfl) rfl ?_
  refine O.nil ?_
  refine J.cond rfl (fun h6 => ?_) (fun h6 => ?_)
  ·
   have h7 : (e5 == word) = false := not_flip h6
   refine J.seq ?_
   refine J.region ?_
   refine O.p (Pu.assign rfl) rfl ?_
   refine O.p (Pu.assign rfl) rfl ?_
   refine O.nil ?_
   refine J.nilRow 3 1 ?_
   exact J.ret (Fin.ret (rs := [.tmp 6, .tmp 7]) rfl [_, _] ⟨rfl, rfl, trivial⟩ [0] (by decide) [row (Value.slice none 0 0) 3 1 (([] : List Int).map encZ)] rfl ⟨Value.slice none 0 0, (by first | (rw [Cf.numbers_word he5 ‹_›]; done) | (rw [Cf.numbers_word he5 ‹_›]; rfl)), (by first | (rw [Cf.numbers_word he5 ‹_›]; done) | (rw [Cf.numbers_word he5 ‹_›]; rfl))⟩)
  ·
   have h8 : (e5 == word) = true := not_flip h6
   refine J.skip ?_
   refine J.seq ?_
   refine J.region ?_
   refine O.p (Pu.assign rfl) rfl ?_
   refine O.nil ?_
   refine J.seq ?_
   refine J.seq ?_
   refine J.region ?_
   refine O.p (Pu.move rfl) rfl ?_
   refine O.q (Qt.lenM Tryz.runUnderlying50 rfl (Src.ro 1 rfl)) rfl ?_
   refine O.p (Pu.move rfl) rfl ?_
   refine O.nil ?_
   refine J.block ?_
   refine J.nilRow 3 1 ?_
   refine J.loop (X := Nat × Value × List Int) (fun ξ => ξ.1 ≤ ns.length ∧ Cf.numN (Wd.wordsL line) ns ξ.1 = some ξ.2.2) (fun ξ => [(8, v1), (9, ξ.2.1), (31, nv), (32, .int .i64 (ns.length : Int)), (33, .int .i64 (ξ.1 : Int))]) (fun ξ => [row v1 9 1 ((Wd.wordsL line).map encS), row ξ.2.1 3 1 (ξ.2.2.map encZ)]) (fun ξ => ns.length - ξ.1) ⟨0, Value.slice none 0 0, []⟩ (show 0 ≤ ns.length ∧ Cf.numN (Wd.wordsL line) ns 0 = some ([]) from ⟨by omega, rfl⟩) ⟨rfl, rfl, rfl, rfl, (congrArg (fun z => some (Value.int .i64 z)) (by first | rfl | omega : (0 : Int) = (0 : Int))), trivial⟩ [1, 0] (by decide) rfl ?_
   rintro ⟨k, V, out⟩ hq9
   obtain ⟨hk, hst⟩ : k ≤ ns.length ∧ Cf.numN (Wd.wordsL line) ns k = some out := hq9
   show J _ _ [(8, v1), (9, V), (31, nv), (32, .int .i64 (ns.length : Int)), (33, .int .i64 (k : Int))] [row v1 9 1 ((Wd.wordsL line).map encS), row V 3 1 (out.map encZ)]
   refine J.seq ?_
   refine J.region ?_
   refine O.p (Pu.lss rfl rfl) rfl ?_
   refine O.nil ?_
   refine J.seq ?_
   refine J.cond rfl (fun h10 => ?_) (fun h10 => ?_)
   ·
    have p11 := of_decide_eq_true h10
    refine J.skip ?_
    refine J.seq ?_
    refine J.block ?_
    refine J.seq ?_
    refine J.region ?_
    refine O.p (Pu.move rfl) rfl ?_
    obtain ⟨e12, he12⟩ : ∃ x_, ns[k]? = some x_ := ⟨_, List.getElem?_eq_getElem (by first | omega | (have h_ := Wd.words_cut (s := line) ‹_›; omega) | (have h0_ := Cf.num_len hst; simp only [List.length_append, List.length_cons, List.length_nil]; omega) | (have h_ := Wd.words_cut (s := line) ‹_›; exact Nat.le_trans (Cf.cutPre_len _ _) (by omega)) | (simp only [List.length_append, List.length_cons, List.length_nil] at *; omega))⟩
    refine O.q (Qt.idxM Tryz.runUnderlying50 Tryz.sizeOf9 rfl (Src.ro 1 rfl) rfl (by first | omega | (have h_ := Wd.words_cut (s := line) ‹_›; omega) | (have h0_ := Cf.num_len hst; simp only [List.length_append, List.length_cons, List.length_nil]; omega) | (have h_ := Wd.words_cut (s := line) ‹_›; exact Nat.le_trans (Cf.cutPre_len _ _) (by omega)) | (simp only [List.length_append, List.length_cons, List.length_nil] at *; omega)) (by first | omega | (have h_ := Wd.words_cut (s := line) ‹_›; omega) | (have h0_ := Cf.num_len hst; simp only [List.length_append, List.length_cons, List.length_nil]; omega) | (have h_ := Wd.words_cut (s := line) ‹_›; exact Nat.le_trans (Cf.cutPre_len _ _) (by omega)) | (simp only [List.length_append, List.length_cons, List.length_nil] at *; omega))) rfl ?_
    refine O.q (Qt.ld rfl (Cel.eltM (Src.ro 1 rfl) he12) (o := (voff nv + k * 1)) (off := 0) (by omega) (Cut.one Tryz.isAgg9 rfl)) rfl ?_
    refine O.p (Pu.assign rfl) rfl ?_
    refine O.p (Pu.assign rfl) rfl ?_
    refine O.nil ?_
    refine J.seq ?_
    refine J.region ?_
    refine O.p (Pu.move rfl) rfl ?_
    refine O.p (Pu.move rfl) rfl ?_
    refine O.p (Pu.add' rfl rfl (by first | omega | (simp only [List.length_append, List.length_cons, List.length_nil, List.length_set]; omega))) rfl ?_
    obtain ⟨e13, he13⟩ : ∃ x_, (Wd.wordsL line)[(k + 1)]? = some x_ := ⟨_, List.getElem?_eq_getElem (by first | omega | (have h_ := Wd.words_cut (s := line) ‹_›; omega) | (have h0_ := Cf.num_len hst; simp only [List.length_append, List.length_cons, List.length_nil]; omega) | (have h_ := Wd.words_cut (s := line) ‹_›; exact Nat.le_trans (Cf.cutPre_len _ _) (by omega)) | (simp only [List.length_append, List.length_cons, List.length_nil] at *; omega))⟩
    refine O.q (Qt.idxM Tryz.runUnderlying50 Tryz.sizeOf9 rfl (Src.row 0 rfl) rfl (by first | omega | (have h_ := Wd.words_cut (s := line) ‹_›; omega) | (have h0_ := Cf.num_len hst; simp only [List.length_append, List.length_cons, List.length_nil]; omega) | (have h_ := Wd.words_cut (s := line) ‹_›; exact Nat.le_trans (Cf.cutPre_len _ _) (by omega)) | (simp only [List.length_append, List.length_cons, List.length_nil] at *; omega)) (by first | omega | (have h_ := Wd.words_cut (s := line) ‹_›; omega) | (have h0_ := Cf.num_len hst; simp only [List.length_append, List.length_cons, List.length_nil]; omega) | (have h_ := Wd.words_cut (s := line) ‹_›; exact Nat.le_trans (Cf.cutPre_len _ _) (by omega)) | (simp only [List.length_append, List.length_cons, List.length_nil] at *; omega))) rfl ?_
    refine O.q (Qt.ld rfl (Cel.eltM (Src.row 0 rfl) he13) (o := (voff v1 + (k + 1) * 1)) (off := 0) (by omega) (Cut.one Tryz.isAgg9 rfl)) rfl ?_
    refine O.p (Pu.move rfl) rfl ?_
    refine O.p (Pu.sAdd rfl rfl (by have h1_ := hns _ (List.mem_of_getElem? ‹_›); simp only [List.length_append, List.length_cons, List.length_nil]; omega)) rfl ?_
    refine O.l (Lo.call [str e13, str (e12 ++ ([61] : List UInt8))] (by exact Tryz.call53) rfl (s_CutPrefix e13 (e12 ++ ([61] : List UInt8))) [] [0, 1] (by decide) rfl [row v1 9 1 ((Wd.wordsL line).map encS), row V 3 1 (out.map encZ)] rfl RoOk.nil) rfl ?_
    rintro _ _ ⟨_, ⟨rfl, rfl⟩, rfl⟩
    refine O.p (Pu.move rfl) rfl ?_
    refine O.p (Pu.extract rfl rfl) rfl ?_
    refine O.p (Pu.extract rfl rfl) rfl ?_
    refine O.p (Pu.assign rfl) rfl ?_
    refine O.p (Pu.assign rfl) rfl ?_
    refine O.nil ?_
    refine J.seq ?_
    refine J.region ?_
    refine O.p (Pu.move rfl) rfl ?_
    refine O.l (Lo.call [str ((Cf.cutPre e13 (e12 ++ ([61] : List UInt8))).1)] (by exact Tryz.call54) rfl (dec_Parse ((Cf.cutPre e13 (e12 ++ ([61] : List UInt8))).1) (by first | omega | (have h_ := Wd.words_cut (s := line) ‹_›; omega) | (have h0_ := Cf.num_len hst; simp only [List.length_append, List.length_cons, List.length_nil]; omega) | (have h_ := Wd.words_cut (s := line) ‹_›; exact Nat.le_trans (Cf.cutPre_len _ _) (by omega)) | (simp only [List.length_append, List.length_cons, List.length_nil] at *; omega))) [] [0, 1] (by decide) rfl [row v1 9 1 ((Wd.wordsL line).map encS), row V 3 1 (out.map encZ)] rfl (RoOk.ro 0 rfl [] rfl RoOk.nil)) rfl ?_
    rintro _ _ ⟨_, ⟨rfl, rfl⟩, rfl⟩
    refine O.p (Pu.move rfl) rfl ?_
    refine O.p (Pu.extract rfl rfl) rfl ?_
    refine O.p (Pu.extract rfl rfl) rfl ?_
    refine O.p (Pu.assign rfl) rfl ?_
    refine O.p (Pu.assign rfl) rfl ?_
    refine O.nil ?_
    refine J.seq ?_
    refine J.seq ?_
    refine J.region ?_
    refine O.p (Pu.move rfl) rfl ?_
    refine O.p (Pu.not rfl) rfl ?_
    refine O.p (Pu.move rfl) rfl ?_
    refine by_bool (!((Cf.cutPre e13 (e12 ++ ([61] : List UInt8))).2)) (fun h16 => ?_) (fun h16 => ?_)
    ·
     have h17 : ((Cf.cutPre e13 (e12 ++ ([61] : List UInt8))).2) = false := not_flip h16
     refine O.gskip (t := 56) rfl rfl (no_bool (by rw [h16]; decide)) rfl rfl ?_
     refine O.gskip (t := 56) rfl rfl (no_bool (by rw [h16]; decide)) rfl rfl ?_
     refine O.p (Pu.pickT rfl h16 rfl) rfl ?_
     refine O.nil ?_
     refine J.condT rfl rfl ?_
     refine J.seq ?_
     refine J.region ?_
     refine O.p (Pu.assign rfl) rfl ?_
     refine O.p (Pu.assign rfl) rfl ?_
     refine O.nil ?_
     refine J.nilRow 3 1 ?_
     exact J.ret (Fin.ret (rs := [.tmp 6, .tmp 7]) rfl [_, _] ⟨rfl, rfl, trivial⟩ [0] (by decide) [row (Value.slice none 0 0) 3 1 (([] : List Int).map encZ)] rfl ⟨Value.slice none 0 0, (by first | (rw [Cf.numbers_bad (by omega) he5 ‹_› hst he13 he12 (by first | exact Cf.bad_short (by omega) | exact Cf.bad_take ‹_› | exact Cf.bad_parse (by omega) ‹_› ‹_› | (intro h_; simp_all; done) | (intro h_; omega))]; done) | (rw [Cf.numbers_bad (by omega) he5 ‹_› hst he13 he12 (by first | exact Cf.bad_short (by omega) | exact Cf.bad_take ‹_› | exact Cf.bad_parse (by omega) ‹_› ‹_› | (intro h_; simp_all; done) | (intro h_; omega))]; rfl)), (by first | (rw [Cf.numbers_bad (by omega) he5 ‹_› hst he13 he12 (by first | exact Cf.bad_short (by omega) | exact Cf.bad_take ‹_› | exact Cf.bad_parse (by omega) ‹_› ‹_› | (intro h_; simp_all; done) | (intro h_; omega))]; done) | (rw [Cf.numbers_bad (by omega) he5 ‹_› hst he13 he12 (by first | exact Cf.bad_short (by omega) | exact Cf.bad_take ‹_› | exact Cf.bad_parse (by omega) ‹_› ‹_› | (intro h_; simp_all; done) | (intro h_; omega))]; rfl))⟩)
    ·
     have h18 : ((Cf.cutPre e13 (e12 ++ ([61] : List UInt8))).2) = true := not_flip h16
     refine O.gq (t := 56) rfl rfl h16 rfl (Pu.qt (Pu.move rfl)) rfl ?_
     refine O.gq (t := 56) rfl rfl h16 rfl (Pu.qt (Pu.neq rfl rfl)) rfl ?_
     refine O.p (Pu.pickF rfl h16 rfl) rfl ?_
     refine O.nil ?_
     refine J.cond rfl (fun h19 => ?_) (fun h19 => ?_)
     ·
      have p20 := of_decide_eq_true h19
      refine J.seq ?_
      refine J.region ?_
      refine O.p (Pu.assign rfl) rfl ?_
      refine O.p (Pu.assign rfl) rfl ?_
      refine O.nil ?_
      refine J.nilRow 3 1 ?_
      exact J.ret (Fin.ret (rs := [.tmp 6, .tmp 7]) rfl [_, _] ⟨rfl, rfl, trivial⟩ [0] (by decide) [row (Value.slice none 0 0) 3 1 (([] : List Int).map encZ)] rfl ⟨Value.slice none 0 0, (by first | (rw [Cf.numbers_bad (by omega) he5 ‹_› hst he13 he12 (by first | exact Cf.bad_short (by omega) | exact Cf.bad_take ‹_› | exact Cf.bad_parse (by omega) ‹_› ‹_› | (intro h_; simp_all; done) | (intro h_; omega))]; done) | (rw [Cf.numbers_bad (by omega) he5 ‹_› hst he13 he12 (by first | exact Cf.bad_short (by omega) | exact Cf.bad_take ‹_› | exact Cf.bad_parse (by omega) ‹_› ‹_› | (intro h_; simp_all; done) | (intro h_; omega))]; rfl)), (by first | (rw [Cf.numbers_bad (by omega) he5 ‹_› hst he13 he12 (by first | exact Cf.bad_short (by omega) | exact Cf.bad_take ‹_› | exact Cf.bad_parse (by omega) ‹_› ‹_› | (intro h_; simp_all; done) | (intro h_; omega))]; done) | (rw [Cf.numbers_bad (by omega) he5 ‹_› hst he13 he12 (by first | exact Cf.bad_short (by omega) | exact Cf.bad_take ‹_› | exact Cf.bad_parse (by omega) ‹_› ‹_› | (intro h_; simp_all; done) | (intro h_; omega))]; rfl))⟩)
     ·
      have p21 := of_decide_eq_false h19
      refine J.skip ?_
      refine J.region ?_
      refine O.p (Pu.move rfl) rfl ?_
      refine O.p (Pu.move rfl) rfl ?_
      refine O.l (Lo.buildM (s := 1) encZ [(Dc.parse ((Cf.cutPre e13 (e12 ++ ([61] : List UInt8))).1)).1] [(0, .int .i64 ((Dc.parse ((Cf.cutPre e13 (e12 ++ ([61] : List UInt8))).1)).1))] (by exact Tryz.runUnderlying34) (by exact Tryz.sizeOf3) (by exact Tryz.zeroValue3) rfl rfl rfl (by kernel_rfl) rfl rfl) rfl ?_
      rintro V22 _ rfl
      refine O.l (Lo.appendM (s := 1) 2 (by exact Tryz.underlying34) (by exact (info3).1) (by exact (info3).2.1) (by exact (info3).2.2.1) (by exact (info3).2.2.2) rfl rfl rfl rfl rfl (Src.row 0 rfl) encZ.one (by first | omega | (have h_ := Wd.words_cut (s := line) ‹_›; omega) | (have h0_ := Cf.num_len hst; simp only [List.length_append, List.length_cons, List.length_nil]; omega) | (have h_ := Wd.words_cut (s := line) ‹_›; exact Nat.le_trans (Cf.cutPre_len _ _) (by omega)) | (simp only [List.length_append, List.length_cons, List.length_nil] at *; omega)) (by first | omega | (have h_ := Wd.words_cut (s := line) ‹_›; omega) | (have h0_ := Cf.num_len hst; simp only [List.length_append, List.length_cons, List.length_nil]; omega) | (have h_ := Wd.words_cut (s := line) ‹_›; exact Nat.le_trans (Cf.cutPre_len _ _) (by omega)) | (simp only [List.length_append, List.length_cons, List.length_nil] at *; omega))) rfl ?_
      rintro V23 _ rfl
      refine O.p (Pu.assign rfl) rfl ?_
      refine O.nil ?_
      refine J.blk ?_
      refine J.region ?_
      refine O.p (Pu.add' rfl rfl (by first | omega | (simp only [List.length_append, List.length_cons, List.length_nil, List.length_set]; omega))) rfl ?_
      refine O.p (Pu.move rfl) rfl ?_
      refine O.nil ?_
      exact J.lp ⟨k + 1, V23, out ++ ([(Dc.parse ((Cf.cutPre e13 (e12 ++ ([61] : List UInt8))).1)).1])⟩ (show (k + 1) ≤ ns.length ∧ Cf.numN (Wd.wordsL line) ns (k + 1) = some (out ++ ([(Dc.parse ((Cf.cutPre e13 (e12 ++ ([61] : List UInt8))).1)).1])) from ⟨by omega, Cf.num_next hst he13 he12 ‹_› (by omega)⟩) (show ns.length - (k + 1) < ns.length - k from (by first | omega | (have h_ := Wd.words_cut (s := line) ‹_›; omega) | (have h0_ := Cf.num_len hst; simp only [List.length_append, List.length_cons, List.length_nil]; omega) | (have h_ := Wd.words_cut (s := line) ‹_›; exact Nat.le_trans (Cf.cutPre_len _ _) (by omega)) | (simp only [List.length_append, List.length_cons, List.length_nil] at *; omega))) ⟨rfl, rfl, rfl, rfl, (congrArg (fun z => some (Value.int .i64 z)) (by first | rfl | omega : ((k : Int) + 1 : Int) = ((k + 1) : Int))), trivial⟩ [1, 2] (by decide) rfl
   ·
    have p24 := of_decide_eq_false h10
    refine J.exit _ rfl ?_
    refine J.seq ?_
    refine J.region ?_
    refine O.p (Pu.move rfl) rfl ?_
    refine O.p (Pu.assign rfl) rfl ?_
    refine O.p (Pu.assign rfl) rfl ?_
    refine O.nil ?_
    exact J.ret (Fin.ret (rs := [.tmp 6, .tmp 7]) rfl [_, _] ⟨rfl, rfl, trivial⟩ [1] (by decide) [row V 3 1 (out.map encZ)] rfl ⟨V, (by first | (rw [Cf.numbers_all (by omega) he5 ‹_› hst (by omega)]; done) | (rw [Cf.numbers_all (by omega) he5 ‹_› hst (by omega)]; rfl)), (by first | (rw [Cf.numbers_all (by omega) he5 ‹_› hst (by omega)]; done) | (rw [Cf.numbers_all (by omega) he5 ‹_› hst (by omega)]; rfl))⟩)

set_option maxRecDepth 100000 in
set_option maxHeartbeats 1000000 in
theorem r28_Numbers (line word : Wd.Bs) (nv : Value) (ns : List Wd.Bs) (hs : line.length ≤ 100000) (hn : ns.length ≤ 900) (hns : ∀ x ∈ ns, x.length ≤ 60000) : Tri Tryz.prog 23 #[str line, str word, nv] [rd nv 1 (ns.map encS)] [] (fun v L' => ∃ V', v = .tuple #[V', .bool (Cf.numbers line word ns).2] ∧ L' = [row V' 3 1 ((Cf.numbers line word ns).1.map encZ)]) := by
 refine Tri.enter (args := [str line, str word, nv]) (body := _) 80 Tryz.func23 rfl Tryz.ntmps23 rfl ?_
 intro w0
 refine J.seq ?_
 refine J.region ?_
 refine O.p (Pu.assign rfl) rfl ?_
 refine O.p (Pu.assign rfl) rfl ?_
 refine O.nil ?_
 refine J.seq ?_
 refine J.region ?_
 refine O.p (Pu.move rfl) rfl ?_
 refine O.l (Lo.call [str line] (by exact Tryz.call55) rfl (r06_Words line (by omega)) [] [] (by decide) rfl [] rfl RoOk.nil) rfl ?_
 rintro v1 _ ⟨_, rfl, rfl⟩
 refine O.p (Pu.assign rfl) rfl ?_
 refine O.nil ?_
 refine J.seq ?_
 refine J.seq ?_
 refine J.region ?_
 refine O.p (Pu.move rfl) rfl ?_
 refine O.q (Qt.lenM Tryz.runUnderlying50 rfl (Src.row 0 rfl)) rfl ?_
 refine O.p (Pu.move rfl) rfl ?_
 refine O.q (Qt.lenM Tryz.runUnderlying50 rfl (Src.ro 0 rfl)) rfl ?_
 refine O.p (Pu.add' rfl rfl (by first | omega | (simp only [List.length_append, List.length_cons, List.length_nil, List.length_set]; omega))) rfl ?_
 refine O.p (Pu.neq rfl rfl) rfl ?_
 refine O.p (Pu.move rfl) rfl ?_
 refine by_bool (decide (((Wd.wordsL line).length : Int) ≠ ((ns.length : Int) + 1))) (fun h2 => ?_) (fun h2 => ?_)
 ·
  have p3 := of_decide_eq_true h2
  refine O.gskip (t := 22) rfl rfl (no_bool (by rw [h2]; decide)) rfl rfl ?_
  refine O.gskip (t := 22) rfl rfl (no_bool (by rw [h2]; decide)) rfl rfl ?_
  refine O.gskip (t := 22) rfl rfl (no_bool (by rw [h2]; decide)) rfl rfl ?_
  refine O.gskip (t := 22) rfl rfl (no_bool (by rw [h2]; decide)) rfl rfl ?_
  refine O.gskip (t := 22) rfl rfl (no_bool (by rw [h2]; decide)) rfl rfl ?_
  refine O.p (Pu.pickT rfl h2 rfl) rfl ?_
  refine O.nil ?_
  refine J.condT rfl rfl ?_
  refine J.seq ?_
  refine J.region ?_
  refine O.p (Pu.assign rfl) rfl ?_
  refine O.p (Pu.assign rfl) rfl ?_
  refine O.nil ?_
  refine J.nilRow 3 1 ?_
  exact J.ret (Fin.ret (rs := [.tmp 6, .tmp 7]) rfl [_, _] ⟨rfl, rfl, trivial⟩ [0] (by decide) [row (Value.slice none 0 0) 3 1 (([] : List Int).map encZ)] rfl ⟨Value.slice none 0 0, (by first | (rw [Cf.numbers_few (by omega)]; done) | (rw [Cf.numbers_few (by omega)]; rfl)), (by first | (rw [Cf.numbers_few (by omega)]; done) | (rw [Cf.numbers_few (by omega)]; rfl))⟩)
 ·
  have p4 := of_decide_eq_false h2
  refine O.gq (t := 22) rfl rfl h2 rfl (Pu.qt (Pu.move rfl)) rfl ?_
  obtain ⟨e5, he5⟩ : ∃ x_, (Wd.wordsL line)[0]? = some x_ := ⟨_, List.getElem?_eq_getElem (by first | omega | (have h_ := Wd.words_cut (s := line) ‹_›; omega) | (have h0_ := Cf.num_len hst; simp only [List.length_append, List.length_cons, List.length_nil]; omega) | (have h_ := Wd.words_cut (s := line) ‹_›; exact Nat.le_trans (Cf.cutPre_len _ _) (by omega)) | (simp only [List.length_append, List.length_cons, List.length_nil] at *; omega))⟩
  refine O.gq (t := 22) rfl rfl h2 rfl (Qt.idxM Tryz.runUnderlying50 Tryz.sizeOf9 rfl (Src.row 0 rfl) rfl (by first | omega | (have h_ := Wd.words_cut (s := line) ‹_›; omega) | (have h0_ := Cf.num_len hst; simp only [List.length_append, List.length_cons, List.length_nil]; omega) | (have h_ := Wd.words_cut (s := line) ‹_›; exact Nat.le_trans (Cf.cutPre_len _ _) (by omega)) | (simp only [List.length_append, List.length_cons, List.length_nil] at *; omega)) (by first | omega | (have h_ := Wd.words_cut (s := line) ‹_›; omega) | (have h0_ := Cf.num_len hst; simp only [List.length_append, List.length_cons, List.length_nil]; omega) | (have h_ := Wd.words_cut (s := line) ‹_›; exact Nat.le_trans (Cf.cutPre_len _ _) (by omega)) | (simp only [List.length_append, List.length_cons, List.length_nil] at *; omega))) rfl ?_
  refine O.gq (t := 22) rfl rfl h2 rfl (Qt.ld rfl (Cel.eltM (Src.row 0 rfl) he5) (o := (voff v1 + 0 * 1)) (off := 0) (by omega) (Cut.one Tryz.isAgg9 rfl)) rfl ?_
  refine O.gq (t := 22) rfl rfl h2 rfl (Pu.qt (Pu.move rfl)) rfl ?_
  refine O.gq (t := 22) rfl rfl h2 rfl (Pu.qt (Pu.sNeq rfl rfl)) rfl ?_
  refine O.p (Pu.pickF rfl h2 rfl) rfl ?_
  refine O.nil ?_
  refine J.cond rfl (fun h6 => ?_) (fun h6 => ?_)
  ·
   have h7 : (e5 == word) = false := not_flip h6
   refine J.seq ?_
   refine J.region ?_
   refine O.p (Pu.assign rfl) rfl ?_
   refine O.p (Pu.assign rfl) rfl ?_
   refine O.nil ?_
   refine J.nilRow 3 1 ?_
   exact J.ret (Fin.ret (rs := [.tmp 6, .tmp 7]) rfl [_, _] ⟨rfl, rfl, trivial⟩ [0] (by decide) [row (Value.slice none 0 0) 3 1 (([] : List Int).map encZ)] rfl ⟨Value.slice none 0 0, (by first | (rw [Cf.numbers_word he5 ‹_›]; done) | (rw [Cf.numbers_word he5 ‹_›]; rfl)), (by first | (rw [Cf.numbers_word he5 ‹_›]; done) | (rw [Cf.numbers_word he5 ‹_›]; rfl))⟩)
  ·
   have h8 : (e5 == word) = true := not_flip h6
   refine J.skip ?_
   refine J.seq ?_
   refine J.region ?_
   refine O.p (Pu.assign rfl) rfl ?_
   refine O.nil ?_
   refine J.seq ?_
   refine J.seq ?_
   refine J.region ?_
   refine O.p (Pu.assign rfl) rfl ?_
   refine O.nil ?_
   refine J.block ?_
   refine J.nilRow 3 1 ?_
   refine J.loop (X := Nat × Value × List Int) (fun ξ => ξ.1 ≤ ns.length ∧ Cf.numN (Wd.wordsL line) ns ξ.1 = some ξ.2.2) (fun ξ => [(2, nv), (8, v1), (9, ξ.2.1), (10, .int .i64 (ξ.1 : Int))]) (fun ξ => [row v1 9 1 ((Wd.wordsL line).map encS), row ξ.2.1 3 1 (ξ.2.2.map encZ)]) (fun ξ => ns.length - ξ.1) ⟨0, Value.slice none 0 0, []⟩ (show 0 ≤ ns.length ∧ Cf.numN (Wd.wordsL line) ns 0 = some ([]) from ⟨by omega, rfl⟩) ⟨rfl, rfl, rfl, (congrArg (fun z => some (Value.int .i64 z)) (by first | rfl | omega : (0 : Int) = (0 : Int))), trivial⟩ [1, 0] (by decide) rfl ?_
   rintro ⟨k, V, out⟩ hq9
   obtain ⟨hk, hst⟩ : k ≤ ns.length ∧ Cf.numN (Wd.wordsL line) ns k = some out := hq9
   show J _ _ [(2, nv), (8, v1), (9, V), (10, .int .i64 (k : Int))] [row v1 9 1 ((Wd.wordsL line).map encS), row V 3 1 (out.map encZ)]
   refine J.seq ?_
   refine J.seq ?_
   refine J.region ?_
   refine O.p (Pu.move rfl) rfl ?_
   refine O.p (Pu.move rfl) rfl ?_
   refine O.q (Qt.lenM Tryz.runUnderlying50 rfl (Src.ro 0 rfl)) rfl ?_
   refine O.p (Pu.lss rfl rfl) rfl ?_
   refine O.nil ?_
   refine J.cond rfl (fun h10 => ?_) (fun h10 => ?_)
   ·
    have p11 := of_decide_eq_true h10
    refine J.skip ?_
    refine J.seq ?_
    refine J.block ?_
    refine J.seq ?_
    refine J.region ?_
    refine O.p (Pu.move rfl) rfl ?_
    refine O.p (Pu.move rfl) rfl ?_
    obtain ⟨e12, he12⟩ : ∃ x_, ns[k]? = some x_ := ⟨_, List.getElem?_eq_getElem (by first | omega | (have h_ := Wd.words_cut (s := line) ‹_›; omega) | (have h0_ := Cf.num_len hst; simp only [List.length_append, List.length_cons, List.length_nil]; omega) | (have h_ := Wd.words_cut (s := line) ‹_›; exact Nat.le_trans (Cf.cutPre_len _ _) (by omega)) | (simp only [List.length_append, List.length_cons, List.length_nil] at *; omega))⟩
    refine O.q (Qt.idxM Tryz.runUnderlying50 Tryz.sizeOf9 rfl (Src.ro 0 rfl) rfl (by first | omega | (have h_ := Wd.words_cut (s := line) ‹_›; omega) | (have h0_ := Cf.num_len hst; simp only [List.length_append, List.length_cons, List.length_nil]; omega) | (have h_ := Wd.words_cut (s := line) ‹_›; exact Nat.le_trans (Cf.cutPre_len _ _) (by omega)) | (simp only [List.length_append, List.length_cons, List.length_nil] at *; omega)) (by first | omega | (have h_ := Wd.words_cut (s := line) ‹_›; omega) | (have h0_ := Cf.num_len hst; simp only [List.length_append, List.length_cons, List.length_nil]; omega) | (have h_ := Wd.words_cut (s := line) ‹_›; exact Nat.le_trans (Cf.cutPre_len _ _) (by omega)) | (simp only [List.length_append, List.length_cons, List.length_nil] at *; omega))) rfl ?_
    refine O.q (Qt.ld rfl (Cel.eltM (Src.ro 0 rfl) he12) (o := (voff nv + k * 1)) (off := 0) (by omega) (Cut.one Tryz.isAgg9 rfl)) rfl ?_
    refine O.p (Pu.sAdd rfl rfl (by have h1_ := hns _ (List.mem_of_getElem? ‹_›); simp only [List.length_append, List.length_cons, List.length_nil]; omega)) rfl ?_
    refine O.p (Pu.assign rfl) rfl ?_
    refine O.nil ?_
    refine J.seq ?_
    refine J.seq ?_
    refine J.region ?_
    refine O.p (Pu.move rfl) rfl ?_
    refine O.p (Pu.move rfl) rfl ?_
    refine O.p (Pu.add' rfl rfl (by first | omega | (simp only [List.length_append, List.length_cons, List.length_nil, List.length_set]; omega))) rfl ?_
    obtain ⟨e13, he13⟩ : ∃ x_, (Wd.wordsL line)[(k + 1)]? = some x_ := ⟨_, List.getElem?_eq_getElem (by first | omega | (have h_ := Wd.words_cut (s := line) ‹_›; omega) | (have h0_ := Cf.num_len hst; simp only [List.length_append, List.length_cons, List.length_nil]; omega) | (have h_ := Wd.words_cut (s := line) ‹_›; exact Nat.le_trans (Cf.cutPre_len _ _) (by omega)) | (simp only [List.length_append, List.length_cons, List.length_nil] at *; omega))⟩
    refine O.q (Qt.idxM Tryz.runUnderlying50 Tryz.sizeOf9 rfl (Src.row 0 rfl) rfl (by first | omega | (have h_ := Wd.words_cut (s := line) ‹_›; omega) | (have h0_ := Cf.num_len hst; simp only [List.length_append, List.length_cons, List.length_nil]; omega) | (have h_ := Wd.words_cut (s := line) ‹_›; exact Nat.le_trans (Cf.cutPre_len _ _) (by omega)) | (simp only [List.length_append, List.length_cons, List.length_nil] at *; omega)) (by first | omega | (have h_ := Wd.words_cut (s := line) ‹_›; omega) | (have h0_ := Cf.num_len hst; simp only [List.length_append, List.length_cons, List.length_nil]; omega) | (have h_ := Wd.words_cut (s := line) ‹_›; exact Nat.le_trans (Cf.cutPre_len _ _) (by omega)) | (simp only [List.length_append, List.length_cons, List.length_nil] at *; omega))) rfl ?_
    refine O.q (Qt.ld rfl (Cel.eltM (Src.row 0 rfl) he13) (o := (voff v1 + (k + 1) * 1)) (off := 0) (by omega) (Cut.one Tryz.isAgg9 rfl)) rfl ?_
    refine O.p (Pu.sLen Tryz.runUnderlying9 rfl) rfl ?_
    refine O.p (Pu.move rfl) rfl ?_
    refine O.p (Pu.sLen Tryz.runUnderlying9 rfl) rfl ?_
    refine O.p (Pu.lss rfl rfl) rfl ?_
    refine O.p (Pu.move rfl) rfl ?_
    refine by_bool (decide ((e13.length : Int) < ((e12 ++ ([61] : List UInt8)).length : Int))) (fun h14 => ?_) (fun h14 => ?_)
    ·
     have p15 := of_decide_eq_true h14
     refine O.gskip (t := 49) rfl rfl (no_bool (by rw [h14]; decide)) rfl rfl ?_
     refine O.gskip (t := 49) rfl rfl (no_bool (by rw [h14]; decide)) rfl rfl ?_
     refine O.gskip (t := 49) rfl rfl (no_bool (by rw [h14]; decide)) rfl rfl ?_
     refine O.gskip (t := 49) rfl rfl (no_bool (by rw [h14]; decide)) rfl rfl ?_
     refine O.gskip (t := 49) rfl rfl (no_bool (by rw [h14]; decide)) rfl rfl ?_
     refine O.gskip (t := 49) rfl rfl (no_bool (by rw [h14]; decide)) rfl rfl ?_
     refine O.gskip (t := 49) rfl rfl (no_bool (by rw [h14]; decide)) rfl rfl ?_
     refine O.gskip (t := 49) rfl rfl (no_bool (by rw [h14]; decide)) rfl rfl ?_
     refine O.gskip (t := 49) rfl rfl (no_bool (by rw [h14]; decide)) rfl rfl ?_
     refine O.gskip (t := 49) rfl rfl (no_bool (by rw [h14]; decide)) rfl rfl ?_
     refine O.p (Pu.pickT rfl h14 rfl) rfl ?_
     refine O.nil ?_
     refine J.condT rfl rfl ?_
     refine J.seq ?_
     refine J.region ?_
     refine O.p (Pu.assign rfl) rfl ?_
     refine O.p (Pu.assign rfl) rfl ?_
     refine O.nil ?_
     refine J.nilRow 3 1 ?_
     exact J.ret (Fin.ret (rs := [.tmp 6, .tmp 7]) rfl [_, _] ⟨rfl, rfl, trivial⟩ [0] (by decide) [row (Value.slice none 0 0) 3 1 (([] : List Int).map encZ)] rfl ⟨Value.slice none 0 0, (by first | (rw [Cf.numbers_bad (by omega) he5 ‹_› hst he13 he12 (by first | exact Cf.bad_short (by omega) | exact Cf.bad_take ‹_› | exact Cf.bad_parse (by omega) ‹_› ‹_› | (intro h_; simp_all; done) | (intro h_; omega))]; done) | (rw [Cf.numbers_bad (by omega) he5 ‹_› hst he13 he12 (by first | exact Cf.bad_short (by omega) | exact Cf.bad_take ‹_› | exact Cf.bad_parse (by omega) ‹_› ‹_› | (intro h_; simp_all; done) | (intro h_; omega))]; rfl)), (by first | (rw [Cf.numbers_bad (by omega) he5 ‹_› hst he13 he12 (by first | exact Cf.bad_short (by omega) | exact Cf.bad_take ‹_› | exact Cf.bad_parse (by omega) ‹_› ‹_› | (intro h_; simp_all; done) | (intro h_; omega))]; done) | (rw [Cf.numbers_bad (by omega) he5 ‹_› hst he13 he12 (by first | exact Cf.bad_short (by omega) | exact Cf.bad_take ‹_› | exact Cf.bad_parse (by omega) ‹_› ‹_› | (intro h_; simp_all; done) | (intro h_; omega))]; rfl))⟩)
    ·
     have p16 := of_decide_eq_false h14
     refine O.gq (t := 49) rfl rfl h14 rfl (Pu.qt (Pu.move rfl)) rfl ?_
     refine O.gq (t := 49) rfl rfl h14 rfl (Pu.qt (Pu.move rfl)) rfl ?_
     refine O.gq (t := 49) rfl rfl h14 rfl (Pu.qt (Pu.add' rfl rfl (by first | omega | (simp only [List.length_append, List.length_cons, List.length_nil, List.length_set]; omega)))) rfl ?_
     refine O.gq (t := 49) rfl rfl h14 rfl (Qt.idxM Tryz.runUnderlying50 Tryz.sizeOf9 rfl (Src.row 0 rfl) rfl (by first | omega | (have h_ := Wd.words_cut (s := line) ‹_›; omega) | (have h0_ := Cf.num_len hst; simp only [List.length_append, List.length_cons, List.length_nil]; omega) | (have h_ := Wd.words_cut (s := line) ‹_›; exact Nat.le_trans (Cf.cutPre_len _ _) (by omega)) | (simp only [List.length_append, List.length_cons, List.length_nil] at *; omega)) (by first | omega | (have h_ := Wd.words_cut (s := line) ‹_›; omega) | (have h0_ := Cf.num_len hst; simp only [List.length_append, List.length_cons, List.length_nil]; omega) | (have h_ := Wd.words_cut (s := line) ‹_›; exact Nat.le_trans (Cf.cutPre_len _ _) (by omega)) | (simp only [List.length_append, List.length_cons, List.length_nil] at *; omega))) rfl ?_
     refine O.gq (t := 49) rfl rfl h14 rfl (Qt.ld rfl (Cel.eltM (Src.row 0 rfl) he13) (o := (voff v1 + (k + 1) * 1)) (off := 0) (by omega) (Cut.one Tryz.isAgg9 rfl)) rfl ?_
     refine O.gq (t := 49) rfl rfl h14 rfl (Pu.qt (Pu.move rfl)) rfl ?_
     refine O.gq (t := 49) rfl rfl h14 rfl (Pu.qt (Pu.sLen Tryz.runUnderlying9 rfl)) rfl ?_
     refine O.gq (t := 49) rfl rfl h14 rfl (Pu.qt (Pu.sHead Tryz.runUnderlying9 rfl rfl (by first | omega | (have h_ := Wd.words_cut (s := line) ‹_›; omega) | (have h0_ := Cf.num_len hst; simp only [List.length_append, List.length_cons, List.length_nil]; omega) | (have h_ := Wd.words_cut (s := line) ‹_›; exact Nat.le_trans (Cf.cutPre_len _ _) (by omega)) | (simp only [List.length_append, List.length_cons, List.length_nil] at *; omega)) (by first | omega | (have h_ := Wd.words_cut (s := line) ‹_›; omega) | (have h0_ := Cf.num_len hst; simp only [List.length_append, List.length_cons, List.length_nil]; omega) | (have h_ := Wd.words_cut (s := line) ‹_›; exact Nat.le_trans (Cf.cutPre_len _ _) (by omega)) | (simp only [List.length_append, List.length_cons, List.length_nil] at *; omega)))) rfl ?_
     refine O.gq (t := 49) rfl rfl h14 rfl (Pu.qt (Pu.move rfl)) rfl ?_
     refine O.gq (t := 49) rfl rfl h14 rfl (Pu.qt (Pu.sNeq rfl rfl)) rfl ?_
     refine O.p (Pu.pickF rfl h14 rfl) rfl ?_
     refine O.nil ?_
     refine J.cond rfl (fun h17 => ?_) (fun h17 => ?_)
     ·
      have h18 : ((e13.take (((e12 ++ ([61] : List UInt8)).length : Int)).toNat) == (e12 ++ ([61] : List UInt8))) = false := not_flip h17
      refine J.seq ?_
      refine J.region ?_
      refine O.p (Pu.assign rfl) rfl ?_
      refine O.p (Pu.assign rfl) rfl ?_
      refine O.nil ?_
      refine J.nilRow 3 1 ?_
      exact J.ret (Fin.ret (rs := [.tmp 6, .tmp 7]) rfl [_, _] ⟨rfl, rfl, trivial⟩ [0] (by decide) [row (Value.slice none 0 0) 3 1 (([] : List Int).map encZ)] rfl ⟨Value.slice none 0 0, (by first | (rw [Cf.numbers_bad (by omega) he5 ‹_› hst he13 he12 (by first | exact Cf.bad_short (by omega) | exact Cf.bad_take ‹_› | exact Cf.bad_parse (by omega) ‹_› ‹_› | (intro h_; simp_all; done) | (intro h_; omega))]; done) | (rw [Cf.numbers_bad (by omega) he5 ‹_› hst he13 he12 (by first | exact Cf.bad_short (by omega) | exact Cf.bad_take ‹_› | exact Cf.bad_parse (by omega) ‹_› ‹_› | (intro h_; simp_all; done) | (intro h_; omega))]; rfl)), (by first | (rw [Cf.numbers_bad (by omega) he5 ‹_› hst he13 he12 (by first | exact Cf.bad_short (by omega) | exact Cf.bad_take ‹_› | exact Cf.bad_parse (by omega) ‹_› ‹_› | (intro h_; simp_all; done) | (intro h_; omega))]; done) | (rw [Cf.numbers_bad (by omega) he5 ‹_› hst he13 he12 (by first | exact Cf.bad_short (by omega) | exact Cf.bad_take ‹_› | exact Cf.bad_parse (by omega) ‹_› ‹_› | (intro h_; simp_all; done) | (intro h_; omega))]; rfl))⟩)
     ·
      have h19 : ((e13.take (((e12 ++ ([61] : List UInt8)).length : Int)).toNat) == (e12 ++ ([61] : List UInt8))) = true := not_flip h17
      refine J.skip ?_
      refine J.seq ?_
      refine J.region ?_
      refine O.p (Pu.move rfl) rfl ?_
      refine O.p (Pu.move rfl) rfl ?_
      refine O.p (Pu.add' rfl rfl (by first | omega | (simp only [List.length_append, List.length_cons, List.length_nil, List.length_set]; omega))) rfl ?_
      refine O.q (Qt.idxM Tryz.runUnderlying50 Tryz.sizeOf9 rfl (Src.row 0 rfl) rfl (by first | omega | (have h_ := Wd.words_cut (s := line) ‹_›; omega) | (have h0_ := Cf.num_len hst; simp only [List.length_append, List.length_cons, List.length_nil]; omega) | (have h_ := Wd.words_cut (s := line) ‹_›; exact Nat.le_trans (Cf.cutPre_len _ _) (by omega)) | (simp only [List.length_append, List.length_cons, List.length_nil] at *; omega)) (by first | omega | (have h_ := Wd.words_cut (s := line) ‹_›; omega) | (have h0_ := Cf.num_len hst; simp only [List.length_append, List.length_cons, List.length_nil]; omega) | (have h_ := Wd.words_cut (s := line) ‹_›; exact Nat.le_trans (Cf.cutPre_len _ _) (by omega)) | (simp only [List.length_append, List.length_cons, List.length_nil] at *; omega))) rfl ?_
      refine O.q (Qt.ld rfl (Cel.eltM (Src.row 0 rfl) he13) (o := (voff v1 + (k + 1) * 1)) (off := 0) (by omega) (Cut.one Tryz.isAgg9 rfl)) rfl ?_
      refine O.p (Pu.move rfl) rfl ?_
      refine O.p (Pu.sLen Tryz.runUnderlying9 rfl) rfl ?_
      refine O.p (Pu.sTail Tryz.runUnderlying9 rfl rfl (by first | omega | (have h_ := Wd.words_cut (s := line) ‹_›; omega) | (have h0_ := Cf.num_len hst; simp only [List.length_append, List.length_cons, List.length_nil]; omega) | (have h_ := Wd.words_cut (s := line) ‹_›; exact Nat.le_trans (Cf.cutPre_len _ _) (by omega)) | (simp only [List.length_append, List.length_cons, List.length_nil] at *; omega)) (by first | omega | (have h_ := Wd.words_cut (s := line) ‹_›; omega) | (have h0_ := Cf.num_len hst; simp only [List.length_append, List.length_cons, List.length_nil]; omega) | (have h_ := Wd.words_cut (s := line) ‹_›; exact Nat.le_trans (Cf.cutPre_len _ _) (by omega)) | (simp only [List.length_append, List.length_cons, List.length_nil] at *; omega))) rfl ?_
      refine O.l (Lo.call [str (e13.drop (((e12 ++ ([61] : List UInt8)).length : Int)).toNat)] (by exact Tryz.call56) rfl (r05_Parse (e13.drop (((e12 ++ ([61] : List UInt8)).length : Int)).toNat) (by have h_ := Wd.words_cut (s := line) ‹_›; simp only [List.length_drop]; omega)) [] [0, 1] (by decide) rfl [row v1 9 1 ((Wd.wordsL line).map encS), row V 3 1 (out.map encZ)] rfl RoOk.nil) rfl ?_
      rintro _ _ ⟨_, ⟨rfl, rfl⟩, rfl⟩
      refine O.p (Pu.move rfl) rfl ?_
      refine O.p (Pu.extract rfl rfl) rfl ?_
      refine O.p (Pu.extract rfl rfl) rfl ?_
      refine O.p (Pu.assign rfl) rfl ?_
      refine O.p (Pu.assign rfl) rfl ?_
      refine O.nil ?_
      refine J.seq ?_
      refine J.seq ?_
      refine J.region ?_
      refine O.p (Pu.move rfl) rfl ?_
      refine O.p (Pu.neq rfl rfl) rfl ?_
      refine O.nil ?_
      refine J.cond rfl (fun h21 => ?_) (fun h21 => ?_)
      ·
       have p22 := of_decide_eq_true h21
       refine J.seq ?_
       refine J.region ?_
       refine O.p (Pu.assign rfl) rfl ?_
       refine O.p (Pu.assign rfl) rfl ?_
       refine O.nil ?_
       refine J.nilRow 3 1 ?_
       exact J.ret (Fin.ret (rs := [.tmp 6, .tmp 7]) rfl [_, _] ⟨rfl, rfl, trivial⟩ [0] (by decide) [row (Value.slice none 0 0) 3 1 (([] : List Int).map encZ)] rfl ⟨Value.slice none 0 0, (by first | (rw [Cf.numbers_bad (by omega) he5 ‹_› hst he13 he12 (by first | exact Cf.bad_short (by omega) | exact Cf.bad_take ‹_› | exact Cf.bad_parse (by omega) ‹_› ‹_› | (intro h_; simp_all; done) | (intro h_; omega))]; done) | (rw [Cf.numbers_bad (by omega) he5 ‹_› hst he13 he12 (by first | exact Cf.bad_short (by omega) | exact Cf.bad_take ‹_› | exact Cf.bad_parse (by omega) ‹_› ‹_› | (intro h_; simp_all; done) | (intro h_; omega))]; rfl)), (by first | (rw [Cf.numbers_bad (by omega) he5 ‹_› hst he13 he12 (by first | exact Cf.bad_short (by omega) | exact Cf.bad_take ‹_› | exact Cf.bad_parse (by omega) ‹_› ‹_› | (intro h_; simp_all; done) | (intro h_; omega))]; done) | (rw [Cf.numbers_bad (by omega) he5 ‹_› hst he13 he12 (by first | exact Cf.bad_short (by omega) | exact Cf.bad_take ‹_› | exact Cf.bad_parse (by omega) ‹_› ‹_› | (intro h_; simp_all; done) | (intro h_; omega))]; rfl))⟩)
      ·
       have p23 := of_decide_eq_false h21
       refine J.skip ?_
       refine J.region ?_
       refine O.p (Pu.move rfl) rfl ?_
       refine O.p (Pu.move rfl) rfl ?_
       refine O.l (Lo.buildM (s := 1) encZ [(Dc.parse (e13.drop (((e12 ++ ([61] : List UInt8)).length : Int)).toNat)).1] [(0, .int .i64 ((Dc.parse (e13.drop (((e12 ++ ([61] : List UInt8)).length : Int)).toNat)).1))] (by exact Tryz.runUnderlying34) (by exact Tryz.sizeOf3) (by exact Tryz.zeroValue3) rfl rfl rfl (by kernel_rfl) rfl rfl) rfl ?_
       rintro V24 _ rfl
       refine O.l (Lo.appendM (s := 1) 2 (by exact Tryz.underlying34) (by exact (info3).1) (by exact (info3).2.1) (by exact (info3).2.2.1) (by exact (info3).2.2.2) rfl rfl rfl rfl rfl (Src.row 0 rfl) encZ.one (by first | omega | (have h_ := Wd.words_cut (s := line) ‹_›; omega) | (have h0_ := Cf.num_len hst; simp only [List.length_append, List.length_cons, List.length_nil]; omega) | (have h_ := Wd.words_cut (s := line) ‹_›; exact Nat.le_trans (Cf.cutPre_len _ _) (by omega)) | (simp only [List.length_append, List.length_cons, List.length_nil] at *; omega)) (by first | omega | (have h_ := Wd.words_cut (s := line) ‹_›; omega) | (have h0_ := Cf.num_len hst; simp only [List.length_append, List.length_cons, List.length_nil]; omega) | (have h_ := Wd.words_cut (s := line) ‹_›; exact Nat.le_trans (Cf.cutPre_len _ _) (by omega)) | (simp only [List.length_append, List.length_cons, List.length_nil] at *; omega))) rfl ?_
       rintro V25 _ rfl
       refine O.p (Pu.assign rfl) rfl ?_
       refine O.nil ?_
       refine J.blk ?_
       refine J.region ?_
       refine O.p (Pu.move rfl) rfl ?_
       refine O.p (Pu.add' rfl rfl (by first | omega | (simp only [List.length_append, List.length_cons, List.length_nil, List.length_set]; omega))) rfl ?_
       refine O.p (Pu.assign rfl) rfl ?_
       refine O.nil ?_
       exact J.lp ⟨k + 1, V25, out ++ ([(Dc.parse (e13.drop (((e12 ++ ([61] : List UInt8)).length : Int)).toNat)).1])⟩ (show (k + 1) ≤ ns.length ∧ Cf.numN (Wd.wordsL line) ns (k + 1) = some (out ++ ([(Dc.parse (e13.drop (((e12 ++ ([61] : List UInt8)).length : Int)).toNat)).1])) from ⟨by omega, Cf.num_next2 hst he13 he12 (by omega) ‹_› (Decidable.not_not.1 p23)⟩) (show ns.length - (k + 1) < ns.length - k from (by first | omega | (have h_ := Wd.words_cut (s := line) ‹_›; omega) | (have h0_ := Cf.num_len hst; simp only [List.length_append, List.length_cons, List.length_nil]; omega) | (have h_ := Wd.words_cut (s := line) ‹_›; exact Nat.le_trans (Cf.cutPre_len _ _) (by omega)) | (simp only [List.length_append, List.length_cons, List.length_nil] at *; omega))) ⟨rfl, rfl, rfl, (congrArg (fun z => some (Value.int .i64 z)) (by first | rfl | omega : ((k : Int) + 1 : Int) = ((k + 1) : Int))), trivial⟩ [1, 2] (by decide) rfl
   ·
    have p26 := of_decide_eq_false h10
    refine J.exit _ rfl ?_
    refine J.seq ?_
    refine J.region ?_
    refine O.p (Pu.move rfl) rfl ?_
    refine O.p (Pu.assign rfl) rfl ?_
    refine O.p (Pu.assign rfl) rfl ?_
    refine O.nil ?_
    exact J.ret (Fin.ret (rs := [.tmp 6, .tmp 7]) rfl [_, _] ⟨rfl, rfl, trivial⟩ [1] (by decide) [row V 3 1 (out.map encZ)] rfl ⟨V, (by first | (rw [Cf.numbers_all (by omega) he5 ‹_› hst (by omega)]; done) | (rw [Cf.numbers_all (by omega) he5 ‹_› hst (by omega)]; rfl)), (by first | (rw [Cf.numbers_all (by omega) he5 ‹_› hst (by omega)]; done) | (rw [Cf.numbers_all (by omega) he5 ‹_› hst (by omega)]; rfl))⟩)

end Go.Proofs.YtnkhmbbnabejhaaGreatDoor
