/-
  Walks, printed by a program of mine (lk.py): each function meets its contract.
-/
import Derived.KernelRfl
import Derived.Test.YtilcmkegbmppnaaDoorNumsT
import Derived.Test.YtilcmkegbmppnaaDoorDecA
import Derived.Test.YtilcmkegbmppnaaDoorShelf
import Derived.Test.YtilcmkegbmppnaaDoorWordsA
namespace Go.Proofs.YtilcmkegbmppnaaDoor
open Go Go.LK
set_option linter.unusedSimpArgs false

theorem gTab : Tryd.prog.globalNamed "internal/strconv.uint64pow10" = some 3 := by kernel_rfl
def libW : Sp := lib 4 3 1 2
theorem s_Itoa (n : Int) (h0 : -9223372036854775808 ≤ n) (h1 : n ≤ 9223372036854775807) : Tri Tryd.prog 76 #[.int .i64 n] [libW] [] (fun v L' => v = str (Lib.itoa n) ∧ L' = []) :=
  Tri.lib fun w hro => (Tryd.strconv_Itoa n h0 h1 w (lib_tab gTab (hro libW (by simp)))).mono fun e w' ⟨he, k, os, hw⟩ => ⟨he, hw ▸ Frame.growN⟩
theorem s_ParseInt (s : List UInt8) (hs : s.length ≤ 281474976710656) : Tri Tryd.prog 71 #[str s, .int .i64 10, .int .i64 64] [libW] [] (fun v L' => (∃ n er, -9223372036854775808 ≤ n ∧ n ≤ 9223372036854775807 ∧ (Dc.okI s = true → Lib.parseIntB 64 s = .ok n) ∧ (er = .nilIface ∨ ∃ t p, er = .iface t p) ∧ nilI er = Dc.okI s ∧ v = .tuple #[.int .i64 n, er]) ∧ L' = []) :=
  Tri.lib' fun w hro => by
    obtain ⟨_, _, ⟨e1, h1, h1'⟩, ⟨e2, h2, h2'⟩⟩ := hro libW (by simp)
    have hsz : (ByteArray.mk s.toArray).size ≤ 281474976710656 := by rw [size_mk]; exact hs
    cases h : Lib.parseIntB 64 s
    · rename_i n
      have hb := Lib.parseIntB_bounds h
      refine (Tryd.strconv_ParseInt_10_at64_ok ⟨s.toArray⟩ (by omega) n h w).mono fun e w' ⟨he, hw⟩ => ⟨_, he, ⟨n, .nilIface, by omega, by omega, fun _ => rfl, .inl rfl, by simp [nilI, Dc.okI, h], rfl⟩, ?_⟩
      rcases hw with rfl | ⟨t, rfl⟩
      · exact Frame.refl _ _
      · exact Frame.bytesWorld
    · exact (Any.strconv_ParseInt_10_at64_syntax Tryd.laysC174 ⟨s.toArray⟩ hsz h e1 w h1 h1').mono fun e w' ⟨N, he, _, _, hb⟩ => ⟨_, he, ⟨0, _, by omega, by omega, fun hc => by simp [Dc.okI, h] at hc, .inr ⟨_, _, rfl⟩, by simp [nilI, Dc.okI, h], rfl⟩, Frame.of_below hb⟩
    · have hsat : -9223372036854775808 ≤ Lib.intSat 64 s ∧ Lib.intSat 64 s ≤ 9223372036854775807 := by unfold Lib.intSat; split <;> simp
      exact (Tryd.strconv_ParseInt_10_at64_range ⟨s.toArray⟩ hsz h e2 w h2 h2').mono fun e w' ⟨N, he, _, _, hb⟩ => ⟨_, he, ⟨_, _, hsat.1, hsat.2, fun hc => by simp [Dc.okI, h] at hc, .inr ⟨_, _, rfl⟩, by simp [nilI, Dc.okI, h], rfl⟩, Frame.of_below hb⟩

set_option maxRecDepth 100000 in
theorem dec_Text (n : Int) (h0 : -9223372036854775808 ≤ n) (h1 : n ≤ 9223372036854775807) : Tri Tryd.prog 45 #[.int .i64 n] [libW] [] (fun v L' => v = str (Lib.itoa n) ∧ L' = []) := by
 refine Tri.enter (args := [.int .i64 n]) (body := _) 5 Tryd.func45 rfl Tryd.ntmps45 rfl ?_
 intro w0
 refine J.seq ?_
 refine J.region ?_
 refine O.p (Pu.assign rfl) rfl ?_
 refine O.nil ?_
 refine J.seq ?_
 refine J.region ?_
 refine O.p (Pu.move rfl) rfl ?_
 refine O.l (Lo.call [.int .i64 n] (by exact Tryd.call76) rfl (s_Itoa n (by first | omega | (simp only [List.length_append, List.length_cons, List.length_nil, List.length_set]; omega)) (by first | omega | (simp only [List.length_append, List.length_cons, List.length_nil, List.length_set]; omega))) [] [] (by decide) rfl [] rfl (RoOk.ro 0 rfl [] rfl RoOk.nil)) rfl ?_
 rintro _ _ ⟨_, ⟨rfl, rfl⟩, rfl⟩
 refine O.p (Pu.assign rfl) rfl ?_
 refine O.nil ?_
 exact J.ret (Fin.ret (rs := [.tmp 2]) rfl [_] ⟨rfl, trivial⟩ [] (by decide) [] rfl ⟨rfl, rfl⟩)

set_option maxRecDepth 100000 in
theorem dec_Parse (s : List UInt8) (hs : s.length ≤ 281474976710656) : Tri Tryd.prog 35 #[str s] [libW] [] (fun v L' => v = .tuple #[.int .i64 (Dc.parse s).1, .int .i64 (Dc.parse s).2] ∧ L' = []) := by
 refine Tri.enter (args := [str s]) (body := _) 20 Tryd.func35 rfl Tryd.ntmps35 rfl ?_
 intro w0
 refine J.seq ?_
 refine J.region ?_
 refine O.p (Pu.assign rfl) rfl ?_
 refine O.p (Pu.assign rfl) rfl ?_
 refine O.nil ?_
 refine J.seq ?_
 refine J.region ?_
 refine O.p (Pu.move rfl) rfl ?_
 refine O.l (Lo.call [str s, .int .i64 10, .int .i64 64] (by exact Tryd.call71) rfl (s_ParseInt s (by first | omega | (simp only [List.length_append, List.length_cons, List.length_nil, List.length_set]; omega))) [] [] (by decide) rfl [] rfl (RoOk.ro 0 rfl [] rfl RoOk.nil)) rfl ?_
 rintro _ _ ⟨_, ⟨⟨n1, er2, hn3, hn4, hok5, he6, hb7, rfl⟩, rfl⟩, rfl⟩
 refine O.p (Pu.move rfl) rfl ?_
 refine O.p (Pu.extract rfl rfl) rfl ?_
 refine O.p (Pu.extract rfl rfl) rfl ?_
 refine O.p (Pu.assign rfl) rfl ?_
 refine O.p (Pu.assign rfl) rfl ?_
 refine O.nil ?_
 refine J.seq ?_
 refine J.seq ?_
 refine J.region ?_
 refine O.p (Pu.move rfl) rfl ?_
 refine O.p (Pu.neNil Tryd.underlying102 rfl he6 hb7) rfl ?_
 refine O.p (Pu.move rfl) rfl ?_
 refine by_bool (!(Dc.okI s)) (fun h9 => ?_) (fun h9 => ?_)
 ·
  have h10 : (Dc.okI s) = false := not_flip h9
  refine O.gskip (t := 13) rfl rfl (no_bool (by rw [h9]; decide)) rfl rfl ?_
  refine O.gskip (t := 13) rfl rfl (no_bool (by rw [h9]; decide)) rfl rfl ?_
  refine O.gskip (t := 13) rfl rfl (no_bool (by rw [h9]; decide)) rfl rfl ?_
  refine O.gskip (t := 13) rfl rfl (no_bool (by rw [h9]; decide)) rfl rfl ?_
  refine O.p (Pu.pickT rfl h9 rfl) rfl ?_
  refine O.nil ?_
  refine J.condT rfl rfl ?_
  refine J.seq ?_
  refine J.region ?_
  refine O.p (Pu.assign rfl) rfl ?_
  refine O.p (Pu.assign rfl) rfl ?_
  refine O.nil ?_
  exact J.ret (Fin.ret (rs := [.tmp 2, .tmp 3]) rfl [_, _] ⟨rfl, rfl, trivial⟩ [] (by decide) [] rfl ⟨(by first | (rw [Dc.parse_no ‹_›]; rfl) | (rw [Dc.parse_bad (hok5 ‹_›) ‹_›]; rfl)), rfl⟩)
 ·
  have h11 : (Dc.okI s) = true := not_flip h9
  refine O.gq (t := 13) rfl rfl h9 rfl (Pu.qt (Pu.move rfl)) rfl ?_
  refine O.gl (t := 13) rfl rfl h9 rfl (Lo.call [.int .i64 n1] (by exact Tryd.call45) rfl (dec_Text n1 (by first | omega | (simp only [List.length_append, List.length_cons, List.length_nil, List.length_set]; omega)) (by first | omega | (simp only [List.length_append, List.length_cons, List.length_nil, List.length_set]; omega))) [] [] (by decide) rfl [] rfl (RoOk.ro 0 rfl [] rfl RoOk.nil)) rfl ?_
  rintro _ _ ⟨_, ⟨rfl, rfl⟩, rfl⟩
  refine O.gq (t := 13) rfl rfl h9 rfl (Pu.qt (Pu.move rfl)) rfl ?_
  refine O.gq (t := 13) rfl rfl h9 rfl (Pu.qt (Pu.sNeq rfl rfl)) rfl ?_
  refine O.p (Pu.pickF rfl h9 rfl) rfl ?_
  refine O.nil ?_
  refine J.cond rfl (fun h13 => ?_) (fun h13 => ?_)
  ·
   have h14 : ((Lib.itoa n1) == s) = false := not_flip h13
   refine J.seq ?_
   refine J.region ?_
   refine O.p (Pu.assign rfl) rfl ?_
   refine O.p (Pu.assign rfl) rfl ?_
   refine O.nil ?_
   exact J.ret (Fin.ret (rs := [.tmp 2, .tmp 3]) rfl [_, _] ⟨rfl, rfl, trivial⟩ [] (by decide) [] rfl ⟨(by first | (rw [Dc.parse_no ‹_›]; rfl) | (rw [Dc.parse_bad (hok5 ‹_›) ‹_›]; rfl)), rfl⟩)
  ·
   have h15 : ((Lib.itoa n1) == s) = true := not_flip h13
   refine J.skip ?_
   refine J.seq ?_
   refine J.region ?_
   refine O.p (Pu.move rfl) rfl ?_
   refine O.p (Pu.assign rfl) rfl ?_
   refine O.p (Pu.assign rfl) rfl ?_
   refine O.nil ?_
   exact J.ret (Fin.ret (rs := [.tmp 2, .tmp 3]) rfl [_, _] ⟨rfl, rfl, trivial⟩ [] (by decide) [] rfl ⟨(by rw [Dc.parse_ok (hok5 ‹_›) ‹_›]; rfl), rfl⟩)

set_option maxRecDepth 100000 in
theorem r01_Same (av bv : Value) (l : List Int) (hl : l.length ≤ 100000) : Tri Tryd.prog 19 #[av, bv] [rd av 1 (l.map encZ), rd bv 1 (l.map encZ)] [] (fun v L' => v = .bool true ∧ L' = []) := by
 refine Tri.enter (args := [av, bv]) (body := _) 32 Tryd.func19 rfl Tryd.ntmps19 rfl ?_
 intro w0
 refine J.seq ?_
 refine J.region ?_
 refine O.p (Pu.assign rfl) rfl ?_
 refine O.nil ?_
 refine J.seq ?_
 refine J.seq ?_
 refine J.region ?_
 refine O.p (Pu.move rfl) rfl ?_
 refine O.q (Qt.lenM Tryd.runUnderlying30 rfl (Src.ro 0 rfl)) rfl ?_
 refine O.p (Pu.move rfl) rfl ?_
 refine O.q (Qt.lenM Tryd.runUnderlying30 rfl (Src.ro 1 rfl)) rfl ?_
 refine O.p (Pu.neq rfl rfl) rfl ?_
 refine O.nil ?_
 refine J.condF rfl (by simp) ?_
 refine J.skip ?_
 refine J.seq ?_
 refine J.seq ?_
 refine J.region ?_
 refine O.p (Pu.assign rfl) rfl ?_
 refine O.nil ?_
 refine J.block ?_
 refine J.loop (X := Nat) (fun ξ => ξ ≤ l.length) (fun ξ => [(0, av), (1, bv), (5, .int .i64 (ξ : Int))]) (fun ξ => []) (fun ξ => l.length - ξ) 0 (show 0 ≤ l.length from (by omega)) ⟨rfl, rfl, (congrArg (fun z => some (Value.int .i64 z)) (by first | rfl | omega : (0 : Int) = (0 : Int))), trivial⟩ [] (by decide) rfl ?_
 rintro k hq1
 obtain hk : k ≤ l.length := hq1
 show J _ _ [(0, av), (1, bv), (5, .int .i64 (k : Int))] []
 refine J.seq ?_
 refine J.seq ?_
 refine J.region ?_
 refine O.p (Pu.move rfl) rfl ?_
 refine O.p (Pu.move rfl) rfl ?_
 refine O.q (Qt.lenM Tryd.runUnderlying30 rfl (Src.ro 0 rfl)) rfl ?_
 refine O.p (Pu.lss rfl rfl) rfl ?_
 refine O.p (Pu.move rfl) rfl ?_
 refine by_bool (decide ((k : Int) < (l.length : Int))) (fun h2 => ?_) (fun h2 => ?_)
 ·
  have p3 := of_decide_eq_true h2
  refine O.gq (t := 15) rfl rfl h2 rfl (Pu.qt (Pu.move rfl)) rfl ?_
  refine O.gq (t := 15) rfl rfl h2 rfl (Pu.qt (Pu.move rfl)) rfl ?_
  refine O.gq (t := 15) rfl rfl h2 rfl (Qt.lenM Tryd.runUnderlying30 rfl (Src.ro 1 rfl)) rfl ?_
  refine O.gq (t := 15) rfl rfl h2 rfl (Pu.qt (Pu.lss rfl rfl)) rfl ?_
  refine O.p (Pu.pickT rfl h2 rfl) rfl ?_
  refine O.nil ?_
  refine J.condT rfl h2 ?_
  refine J.skip ?_
  refine J.seq ?_
  refine J.block ?_
  refine J.seq ?_
  refine J.drawStill Tryd.mixed (by kernel_rfl) ?_
  refine S.p (Pu.move rfl) rfl ?_
  refine S.p (Pu.move rfl) rfl ?_
  obtain ⟨e4, he4⟩ : ∃ x_, l[k]? = some x_ := ⟨_, List.getElem?_eq_getElem (by first | omega | (simp only [List.length_append, List.length_cons, List.length_nil, List.length_set]; omega))⟩
  refine S.q (Qt.idxM Tryd.runUnderlying30 Tryd.sizeOf3 rfl (Src.ro 0 rfl) rfl (by first | omega | (simp only [List.length_append, List.length_cons, List.length_nil, List.length_set]; omega)) (by first | omega | (simp only [List.length_append, List.length_cons, List.length_nil, List.length_set]; omega))) rfl ?_
  refine S.q (Qt.ld rfl (Cel.eltM (Src.ro 0 rfl) he4) (o := (voff av + k * 1)) (off := 0) (by omega) (Cut.one Tryd.isAgg3 rfl)) rfl ?_
  refine S.p (Pu.move rfl) rfl ?_
  refine S.p (Pu.move rfl) rfl ?_
  refine S.q (Qt.idxM Tryd.runUnderlying30 Tryd.sizeOf3 rfl (Src.ro 1 rfl) rfl (by first | omega | (simp only [List.length_append, List.length_cons, List.length_nil, List.length_set]; omega)) (by first | omega | (simp only [List.length_append, List.length_cons, List.length_nil, List.length_set]; omega))) rfl ?_
  refine S.q (Qt.ld rfl (Cel.eltM (Src.ro 1 rfl) he4) (o := (voff bv + k * 1)) (off := 0) (by omega) (Cut.one Tryd.isAgg3 rfl)) rfl ?_
  refine S.p (Pu.neq rfl rfl) rfl ?_
  refine S.endJ ?_
  refine J.condF rfl (by simp) ?_
  refine J.skip ?_
  refine J.blk ?_
  refine J.region ?_
  refine O.p (Pu.move rfl) rfl ?_
  refine O.p (Pu.add' rfl rfl (by first | omega | (simp only [List.length_append, List.length_cons, List.length_nil, List.length_set]; omega))) rfl ?_
  refine O.p (Pu.assign rfl) rfl ?_
  refine O.nil ?_
  exact J.lp (k + 1) (show (k + 1) ≤ l.length from (by omega)) (show l.length - (k + 1) < l.length - k from (by first | omega | (simp only [List.length_append, List.length_cons, List.length_nil, List.length_set]; omega))) ⟨rfl, rfl, (congrArg (fun z => some (Value.int .i64 z)) (by first | rfl | omega : ((k : Int) + 1 : Int) = ((k + 1) : Int))), trivial⟩ [] (by decide) rfl
 ·
  have p5 := of_decide_eq_false h2
  refine O.gskip (t := 15) rfl rfl (no_bool (by rw [h2]; decide)) rfl rfl ?_
  refine O.gskip (t := 15) rfl rfl (no_bool (by rw [h2]; decide)) rfl rfl ?_
  refine O.gskip (t := 15) rfl rfl (no_bool (by rw [h2]; decide)) rfl rfl ?_
  refine O.gskip (t := 15) rfl rfl (no_bool (by rw [h2]; decide)) rfl rfl ?_
  refine O.p (Pu.pickF rfl h2 rfl) rfl ?_
  refine O.nil ?_
  refine J.condF rfl rfl ?_
  refine J.exit _ rfl ?_
  refine J.seq ?_
  refine J.region ?_
  refine O.p (Pu.assign rfl) rfl ?_
  refine O.nil ?_
  exact J.ret (Fin.ret (rs := [.tmp 4]) rfl [_] ⟨rfl, trivial⟩ [] (by decide) [] rfl ⟨rfl, rfl⟩)

end Go.Proofs.YtilcmkegbmppnaaDoor
