/-
  Walks, printed by a program of mine (lk.py): each function meets its contract.
-/
import Derived.KernelRfl
import Derived.Test.YtnhfgnnpbipcnaaGreatDoorNumsT
import Derived.Test.YtnhfgnnpbipcnaaGreatDoorDecA
import Derived.Test.YtnhfgnnpbipcnaaGreatDoorShelf
import Derived.Test.YtnhfgnnpbipcnaaGreatDoorWordsA
namespace Go.Proofs.YtnhfgnnpbipcnaaGreatDoor
open Go Go.LK Go.Proofs.Tryz
set_option linter.unusedSimpArgs false

theorem gTab : Tryz.prog.globalNamed "internal/strconv.uint64pow10" = some 3 := by kernel_rfl
def libW : Sp := lib 2 3 4 5
theorem s_Itoa (n : Int) (h0 : -9223372036854775808 ≤ n) (h1 : n ≤ 9223372036854775807) : Tri prog 103 #[.int .i64 n] [libW] [] (fun v L' => v = str (Lib.itoa n) ∧ L' = []) :=
  Tri.lib fun w hro => (strconv_Itoa n h0 h1 w (lib_tab gTab (hro libW (by simp)))).mono fun e w' ⟨he, k, os, hw⟩ => ⟨he, hw ▸ Frame.growN⟩
theorem s_Cut (s sep : List UInt8) (hs : s.length < 4294967281) : Tri prog 111 #[str s, str sep] [libW] [] (fun v L' => v = .tuple #[str (Lib.cut s sep).1, str (Lib.cut s sep).2.1, .bool (Lib.cut s sep).2.2] ∧ L' = []) :=
  Tri.lib fun w hro => by
    obtain ⟨⟨m, hm⟩, _⟩ := hro libW (by simp)
    exact (strings_Cut ⟨s.toArray⟩ ⟨sep.toArray⟩ m w (by rw [size_mk]; exact hs) hm).mono fun e w' ⟨he, k, hw⟩ => ⟨he, hw ▸ Frame.drewN⟩
theorem s_ParseInt (s : List UInt8) (hs : s.length ≤ 281474976710656) : Tri prog 123 #[str s, .int .i64 10, .int .i64 64] [libW] [] (fun v L' => (∃ n er, -9223372036854775808 ≤ n ∧ n ≤ 9223372036854775807 ∧ (Dc.okI s = true → Lib.parseIntB 64 s = .ok n) ∧ (er = .nilIface ∨ ∃ t p, er = .iface t p) ∧ nilI er = Dc.okI s ∧ v = .tuple #[.int .i64 n, er]) ∧ L' = []) :=
  Tri.lib' fun w hro => by
    obtain ⟨_, _, ⟨e1, h1, h1'⟩, ⟨e2, h2, h2'⟩⟩ := hro libW (by simp)
    have hsz : (ByteArray.mk s.toArray).size ≤ 281474976710656 := by rw [size_mk]; exact hs
    cases h : Lib.parseIntB 64 s
    · rename_i n
      have hb := Lib.parseIntB_bounds h
      refine (strconv_ParseInt_10_at64_ok ⟨s.toArray⟩ (by omega) n h w).mono fun e w' ⟨he, hw⟩ => ⟨_, he, ⟨n, .nilIface, by omega, by omega, fun _ => rfl, .inl rfl, by simp [nilI, Dc.okI, h], rfl⟩, ?_⟩
      rcases hw with rfl | ⟨t, rfl⟩
      · exact Frame.refl _ _
      · exact Frame.bytesWorld
    · exact (Any.strconv_ParseInt_10_at64_syntax laysC174 ⟨s.toArray⟩ hsz h e1 w h1 h1').mono fun e w' ⟨N, he, _, _, hb⟩ => ⟨_, he, ⟨0, _, by omega, by omega, fun hc => by simp [Dc.okI, h] at hc, .inr ⟨_, _, rfl⟩, by simp [nilI, Dc.okI, h], rfl⟩, Frame.of_below hb⟩
    · have hsat : -9223372036854775808 ≤ Lib.intSat 64 s ∧ Lib.intSat 64 s ≤ 9223372036854775807 := by unfold Lib.intSat; split <;> simp
      exact (strconv_ParseInt_10_at64_range ⟨s.toArray⟩ hsz h e2 w h2 h2').mono fun e w' ⟨N, he, _, _, hb⟩ => ⟨_, he, ⟨_, _, hsat.1, hsat.2, fun hc => by simp [Dc.okI, h] at hc, .inr ⟨_, _, rfl⟩, by simp [nilI, Dc.okI, h], rfl⟩, Frame.of_below hb⟩

set_option maxRecDepth 100000 in
theorem dec_Text (n : Int) (h0 : -9223372036854775808 ≤ n) (h1 : n ≤ 9223372036854775807) : Tri prog 69 #[.int .i64 n] [libW] [] (fun v L' => v = str (Lib.itoa n) ∧ L' = []) := by
 refine Tri.enter (args := [.int .i64 n]) (body := _) 5 func69 rfl ntmps69 rfl ?_
 intro w0
 refine J.seq <| J.region <| O.a rfl rfl <| O.nil <| J.seq <| J.region <| O.m rfl rfl <| O.l (Lo.call [.int .i64 n] (by exact call103) rfl (s_Itoa n (by first | omega | (simp only [List.length_append, List.length_cons, List.length_nil, List.length_set]; omega)) (by first | omega | (simp only [List.length_append, List.length_cons, List.length_nil, List.length_set]; omega))) [] [] (by decide) rfl [] rfl (RoOk.ro 0 rfl [] rfl RoOk.nil)) rfl ?_
 rintro _ _ ⟨_, ⟨rfl, rfl⟩, rfl⟩
 refine O.a rfl rfl <| O.nil ?_
 exact J.ret (Fin.ret (rs := [.tmp 2]) rfl [_] ⟨rfl, trivial⟩ [] (by decide) [] rfl ⟨rfl, rfl⟩)

set_option maxRecDepth 100000 in
theorem dec_Parse (s : List UInt8) (hs : s.length ≤ 281474976710656) : Tri prog 110 #[str s] [libW] [] (fun v L' => v = .tuple #[.int .i64 (Dc.parse s).1, .int .i64 (Dc.parse s).2] ∧ L' = []) := by
 refine Tri.enter (args := [str s]) (body := _) 20 func110 rfl ntmps110 rfl ?_
 intro w0
 refine J.seq <| J.region <| O.a rfl rfl <| O.a rfl rfl <| O.nil <| J.seq <| J.region <| O.m rfl rfl <| O.l (Lo.call [str s, .int .i64 10, .int .i64 64] (by exact call123) rfl (s_ParseInt s (by first | omega | (simp only [List.length_append, List.length_cons, List.length_nil, List.length_set]; omega))) [] [] (by decide) rfl [] rfl (RoOk.ro 0 rfl [] rfl RoOk.nil)) rfl ?_
 rintro _ _ ⟨_, ⟨⟨n1, er2, hn3, hn4, hok5, he6, hb7, rfl⟩, rfl⟩, rfl⟩
 refine O.m rfl rfl <| O.p (Pu.extract rfl rfl) rfl <| O.p (Pu.extract rfl rfl) rfl <| O.a rfl rfl <| O.a rfl rfl <| O.nil <| J.seq <| J.seq <| J.region <| O.m rfl rfl <| O.p (Pu.neNil underlying107 rfl he6 hb7) rfl <| O.m rfl rfl ?_
 refine by_bool (!(Dc.okI s)) (fun h9 => ?_) (fun h9 => ?_)
 ·
  have h10 : (Dc.okI s) = false := not_flip h9
  refine O.gskip (t := 13) rfl rfl (no_bool (by rw [h9]; decide)) rfl rfl <| O.gskip (t := 13) rfl rfl (no_bool (by rw [h9]; decide)) rfl rfl <| O.gskip (t := 13) rfl rfl (no_bool (by rw [h9]; decide)) rfl rfl <| O.gskip (t := 13) rfl rfl (no_bool (by rw [h9]; decide)) rfl rfl <| O.p (Pu.pickT rfl h9 rfl) rfl <| O.nil <| J.condT rfl rfl <| J.seq <| J.region <| O.a rfl rfl <| O.a rfl rfl <| O.nil ?_
  exact J.ret (Fin.ret (rs := [.tmp 2, .tmp 3]) rfl [_, _] ⟨rfl, rfl, trivial⟩ [] (by decide) [] rfl ⟨(by first | (rw [Dc.parse_no ‹_›]; rfl) | (rw [Dc.parse_bad (hok5 ‹_›) ‹_›]; rfl)), rfl⟩)
 ·
  have h11 : (Dc.okI s) = true := not_flip h9
  refine O.gq (t := 13) rfl rfl h9 rfl (Pu.qt (Pu.move rfl)) rfl <| O.gl (t := 13) rfl rfl h9 rfl (Lo.call [.int .i64 n1] (by exact call69) rfl (dec_Text n1 (by first | omega | (simp only [List.length_append, List.length_cons, List.length_nil, List.length_set]; omega)) (by first | omega | (simp only [List.length_append, List.length_cons, List.length_nil, List.length_set]; omega))) [] [] (by decide) rfl [] rfl (RoOk.ro 0 rfl [] rfl RoOk.nil)) rfl ?_
  rintro _ _ ⟨_, ⟨rfl, rfl⟩, rfl⟩
  refine O.gq (t := 13) rfl rfl h9 rfl (Pu.qt (Pu.move rfl)) rfl <| O.gq (t := 13) rfl rfl h9 rfl (Pu.qt (Pu.sNeq rfl rfl)) rfl <| O.p (Pu.pickF rfl h9 rfl) rfl <| O.nil ?_
  refine J.cond rfl (fun h13 => ?_) (fun h13 => ?_)
  ·
   have h14 : ((Lib.itoa n1) == s) = false := not_flip h13
   refine J.seq <| J.region <| O.a rfl rfl <| O.a rfl rfl <| O.nil ?_
   exact J.ret (Fin.ret (rs := [.tmp 2, .tmp 3]) rfl [_, _] ⟨rfl, rfl, trivial⟩ [] (by decide) [] rfl ⟨(by first | (rw [Dc.parse_no ‹_›]; rfl) | (rw [Dc.parse_bad (hok5 ‹_›) ‹_›]; rfl)), rfl⟩)
  ·
   have h15 : ((Lib.itoa n1) == s) = true := not_flip h13
   refine J.skip <| J.seq <| J.region <| O.m rfl rfl <| O.a rfl rfl <| O.a rfl rfl <| O.nil ?_
   exact J.ret (Fin.ret (rs := [.tmp 2, .tmp 3]) rfl [_, _] ⟨rfl, rfl, trivial⟩ [] (by decide) [] rfl ⟨(by rw [Dc.parse_ok (hok5 ‹_›) ‹_›]; rfl), rfl⟩)

set_option maxRecDepth 100000 in
theorem r05_Text (n : Int) (hn : Dc.I64 n) : Tri prog 76 #[.int .i64 n] [] [] (fun v L' => v = str (Lib.itoa n) ∧ L' = []) := by
 refine Tri.enter (args := [.int .i64 n]) (body := _) 33 func76 rfl ntmps76 rfl ?_
 intro w0
 refine J.seq <| J.region <| O.a rfl rfl <| O.nil <| J.seq <| J.seq <| J.region <| O.m rfl rfl <| O.p (Pu.eql rfl rfl) rfl <| O.nil ?_
 refine J.cond rfl (fun h1 => ?_) (fun h1 => ?_)
 ·
  have p2 := of_decide_eq_true h1
  refine J.seq <| J.region <| O.a rfl rfl <| O.nil ?_
  exact J.ret (Fin.ret (rs := [.tmp 2]) rfl [_] ⟨rfl, trivial⟩ [] (by decide) [] rfl ⟨(by have hn0 : n = 0 := (by omega); subst hn0; rw [Dc.itoa_zero]; rfl), rfl⟩)
 ·
  have p3 := of_decide_eq_false h1
  refine J.skip <| J.seq <| J.region <| O.m rfl rfl <| O.a rfl rfl <| O.a rfl rfl <| O.nil <| J.seq <| J.block <| J.loop (X := Int × List UInt8) (fun ξ => Dc.I64 ξ.1 ∧ Dc.dig ξ.1 ++ ξ.2 = Dc.dig n) (fun ξ => [(0, .int .i64 n), (2, str ([] : List UInt8)), (3, str ξ.2), (4, .int .i64 ξ.1)]) (fun ξ => []) (fun ξ => ξ.1.natAbs) ⟨n, ([] : List UInt8)⟩ (show Dc.I64 n ∧ Dc.dig n ++ ([] : List UInt8) = Dc.dig n from ⟨hn, by simp⟩) ⟨rfl, rfl, rfl, rfl, trivial⟩ [] (by decide) rfl ?_
  rintro ⟨k, t⟩ hq4
  obtain ⟨hk, hst⟩ : Dc.I64 k ∧ Dc.dig k ++ t = Dc.dig n := hq4
  show J _ _ [(0, .int .i64 n), (2, str ([] : List UInt8)), (3, str t), (4, .int .i64 k)] []
  refine J.seq <| J.seq <| J.region <| O.m rfl rfl <| O.p (Pu.neq rfl rfl) rfl <| O.nil ?_
  refine J.cond rfl (fun h5 => ?_) (fun h5 => ?_)
  ·
   have p6 := of_decide_eq_true h5
   refine J.skip <| J.block <| J.seq <| J.region <| O.m rfl rfl <| O.m rfl rfl <| O.p (Pu.to (Pu.quo rfl rfl (by first | omega | (have h_ := Dc.t_parts k; have h2_ : Dc.I64 k := hk; unfold Dc.I64 at h2_; omega))) (congrArg (Value.int .i64) (Dc.quo_wrap hk))) rfl <| O.p (Pu.mul' rfl rfl (by first | omega | (have h_ := Dc.t_parts k; have h2_ : Dc.I64 k := hk; unfold Dc.I64 at h2_; omega))) rfl <| O.p (Pu.to (Pu.sub' rfl rfl (by first | omega | (have h_ := Dc.t_parts k; have h2_ : Dc.I64 k := hk; unfold Dc.I64 at h2_; omega))) (congrArg (Value.int .i64) Dc.low)) rfl <| O.a rfl rfl <| O.nil <| J.seq ?_
   refine J.seq <| J.region <| O.m rfl rfl <| O.p (Pu.lss rfl rfl) rfl <| O.nil ?_
   refine J.cond rfl (fun h7 => ?_) (fun h7 => ?_)
   ·
    have p8 := of_decide_eq_true h7
    refine J.region <| O.m rfl rfl <| O.p (Pu.to (Pu.neg rfl) (congrArg (Value.int .i64) Dc.neg_wrap)) rfl <| O.a rfl rfl <| O.nil <| J.seq <| J.region <| O.m rfl rfl <| O.m rfl rfl <| O.p (Pu.add' rfl rfl (by first | omega | (have h_ := Dc.t_parts k; have h2_ : Dc.I64 k := hk; unfold Dc.I64 at h2_; omega))) rfl <| O.p (Pu.sCut runUnderlying9 rfl rfl rfl (by first | omega | (have h_ := Dc.t_parts k; have h2_ : Dc.I64 k := hk; unfold Dc.I64 at h2_; simp only [List.length_cons, List.length_nil]; omega) | (have h_ := Dc.t_parts k; have h2_ : Dc.I64 k := hk; unfold Dc.I64 at h2_; omega)) (by first | omega | (have h_ := Dc.t_parts k; have h2_ : Dc.I64 k := hk; unfold Dc.I64 at h2_; simp only [List.length_cons, List.length_nil]; omega) | (have h_ := Dc.t_parts k; have h2_ : Dc.I64 k := hk; unfold Dc.I64 at h2_; omega)) (by first | omega | (have h_ := Dc.t_parts k; have h2_ : Dc.I64 k := hk; unfold Dc.I64 at h2_; simp only [List.length_cons, List.length_nil]; omega) | (have h_ := Dc.t_parts k; have h2_ : Dc.I64 k := hk; unfold Dc.I64 at h2_; omega))) rfl <| O.m rfl rfl ?_
    refine O.p (Pu.sAdd rfl rfl (by have h_ := Dc.short hn hst; simp only [List.length_append, List.length_take, List.length_drop, List.length_cons, List.length_nil]; omega)) rfl <| O.a rfl rfl <| O.nil <| J.region <| O.m rfl rfl <| O.p (Pu.to (Pu.quo rfl rfl (by first | omega | (have h_ := Dc.t_parts k; have h2_ : Dc.I64 k := hk; unfold Dc.I64 at h2_; omega))) (congrArg (Value.int .i64) (Dc.quo_wrap hk))) rfl <| O.a rfl rfl <| O.nil <| J.blk ?_
    exact J.lp ⟨Int.tdiv k 10, ((([48, 49, 50, 51, 52, 53, 54, 55, 56, 57]).drop (-(Int.tmod k 10)).toNat).take (((-(Int.tmod k 10)) + 1).toNat - (-(Int.tmod k 10)).toNat)) ++ t⟩ (show Dc.I64 (Int.tdiv k 10) ∧ Dc.dig (Int.tdiv k 10) ++ (((([48, 49, 50, 51, 52, 53, 54, 55, 56, 57]).drop (-(Int.tmod k 10)).toNat).take (((-(Int.tmod k 10)) + 1).toNat - (-(Int.tmod k 10)).toNat)) ++ t) = Dc.dig n from ⟨Dc.quo_I64 hk, Dc.text_step (by omega) (by have h_ := Dc.t_parts k; omega) (by omega) hst⟩) (show (Int.tdiv k 10).natAbs < k.natAbs from (by have h_ := Dc.t_parts k; omega)) ⟨rfl, rfl, rfl, rfl, trivial⟩ [] (by decide) rfl
   ·
    have p9 := of_decide_eq_false h7
    refine J.skip <| J.seq <| J.region <| O.m rfl rfl <| O.m rfl rfl <| O.p (Pu.add' rfl rfl (by first | omega | (have h_ := Dc.t_parts k; have h2_ : Dc.I64 k := hk; unfold Dc.I64 at h2_; omega))) rfl <| O.p (Pu.sCut runUnderlying9 rfl rfl rfl (by first | omega | (have h_ := Dc.t_parts k; have h2_ : Dc.I64 k := hk; unfold Dc.I64 at h2_; simp only [List.length_cons, List.length_nil]; omega) | (have h_ := Dc.t_parts k; have h2_ : Dc.I64 k := hk; unfold Dc.I64 at h2_; omega)) (by first | omega | (have h_ := Dc.t_parts k; have h2_ : Dc.I64 k := hk; unfold Dc.I64 at h2_; simp only [List.length_cons, List.length_nil]; omega) | (have h_ := Dc.t_parts k; have h2_ : Dc.I64 k := hk; unfold Dc.I64 at h2_; omega)) (by first | omega | (have h_ := Dc.t_parts k; have h2_ : Dc.I64 k := hk; unfold Dc.I64 at h2_; simp only [List.length_cons, List.length_nil]; omega) | (have h_ := Dc.t_parts k; have h2_ : Dc.I64 k := hk; unfold Dc.I64 at h2_; omega))) rfl <| O.m rfl rfl <| O.p (Pu.sAdd rfl rfl (by have h_ := Dc.short hn hst; simp only [List.length_append, List.length_take, List.length_drop, List.length_cons, List.length_nil]; omega)) rfl <| O.a rfl rfl <| O.nil <| J.region ?_
    refine O.m rfl rfl <| O.p (Pu.to (Pu.quo rfl rfl (by first | omega | (have h_ := Dc.t_parts k; have h2_ : Dc.I64 k := hk; unfold Dc.I64 at h2_; omega))) (congrArg (Value.int .i64) (Dc.quo_wrap hk))) rfl <| O.a rfl rfl <| O.nil <| J.blk ?_
    exact J.lp ⟨Int.tdiv k 10, ((([48, 49, 50, 51, 52, 53, 54, 55, 56, 57]).drop (Int.tmod k 10).toNat).take (((Int.tmod k 10) + 1).toNat - (Int.tmod k 10).toNat)) ++ t⟩ (show Dc.I64 (Int.tdiv k 10) ∧ Dc.dig (Int.tdiv k 10) ++ (((([48, 49, 50, 51, 52, 53, 54, 55, 56, 57]).drop (Int.tmod k 10).toNat).take (((Int.tmod k 10) + 1).toNat - (Int.tmod k 10).toNat)) ++ t) = Dc.dig n from ⟨Dc.quo_I64 hk, Dc.text_step (by omega) (by have h_ := Dc.t_parts k; omega) (by omega) hst⟩) (show (Int.tdiv k 10).natAbs < k.natAbs from (by have h_ := Dc.t_parts k; omega)) ⟨rfl, rfl, rfl, rfl, trivial⟩ [] (by decide) rfl
  ·
   have p10 := of_decide_eq_false h5
   refine J.exit _ rfl <| J.seq <| J.seq <| J.region <| O.m rfl rfl <| O.p (Pu.lss rfl rfl) rfl <| O.nil ?_
   refine J.cond rfl (fun h11 => ?_) (fun h11 => ?_)
   ·
    have p12 := of_decide_eq_true h11
    refine J.region <| O.m rfl rfl <| O.p (Pu.sAdd rfl rfl (by have h_ := Dc.short hn hst; simp only [List.length_append, List.length_take, List.length_drop, List.length_cons, List.length_nil]; omega)) rfl <| O.a rfl rfl <| O.nil <| J.seq <| J.region <| O.m rfl rfl <| O.a rfl rfl <| O.nil ?_
    exact J.ret (Fin.ret (rs := [.tmp 2]) rfl [_] ⟨rfl, trivial⟩ [] (by decide) [] rfl ⟨(by have hk0 : k = 0 := (by omega); subst hk0; rw [Dc.text_neg (by omega) hst]; rfl), rfl⟩)
   ·
    have p13 := of_decide_eq_false h11
    refine J.skip <| J.seq <| J.region <| O.m rfl rfl <| O.a rfl rfl <| O.nil ?_
    exact J.ret (Fin.ret (rs := [.tmp 2]) rfl [_] ⟨rfl, trivial⟩ [] (by decide) [] rfl ⟨(by have hk0 : k = 0 := (by omega); subst hk0; rw [Dc.text_pos (by omega) (by omega) hst]; rfl), rfl⟩)

set_option maxRecDepth 100000 in
theorem r05_Parse (s : List UInt8) (hs : s.length ≤ 1000000) : Tri prog 116 #[str s] [] [] (fun v L' => v = .tuple #[.int .i64 (Dc.parse s).1, .int .i64 (Dc.parse s).2] ∧ L' = []) := by
 refine Tri.enter (args := [str s]) (body := _) 60 func116 rfl ntmps116 rfl ?_
 intro w0
 refine J.seq <| J.region <| O.a rfl rfl <| O.a rfl rfl <| O.nil <| J.seq <| J.region <| O.a rfl rfl <| O.nil <| J.seq <| J.seq <| J.region ?_
 refine O.m rfl rfl <| O.p (Pu.sLen runUnderlying9 rfl) rfl <| O.p (Pu.gtr rfl rfl) rfl <| O.m rfl rfl ?_
 refine by_bool (decide (0 < (s.length : Int))) (fun h1 => ?_) (fun h1 => ?_)
 ·
  have p2 := of_decide_eq_true h1
  refine O.gq (t := 10) rfl rfl h1 rfl (Pu.qt (Pu.move rfl)) rfl ?_
  obtain ⟨b3, hb4⟩ : ∃ x_, s[(0 : Int).toNat]? = some x_ := ⟨_, List.getElem?_eq_getElem (by first | omega | (simp only [List.length_append, List.length_cons, List.length_nil, List.length_set]; omega))⟩
  refine O.gq (t := 10) rfl rfl h1 rfl (Pu.qt (Pu.sIdx runUnderlying9 rfl rfl (by first | omega | (simp only [List.length_append, List.length_cons, List.length_nil, List.length_set]; omega)) hb4)) rfl <| O.gq (t := 10) rfl rfl h1 rfl (Pu.qt (Pu.eql rfl rfl)) rfl <| O.p (Pu.pickT rfl h1 rfl) rfl <| O.nil ?_
  refine J.cond rfl (fun h5 => ?_) (fun h5 => ?_)
  ·
   have p6 := of_decide_eq_true h5
   refine J.region <| O.a rfl rfl <| O.nil <| J.seq <| J.seq <| J.region <| O.m rfl rfl <| O.p (Pu.sLen runUnderlying9 rfl) rfl <| O.m rfl rfl <| O.p (Pu.eql rfl rfl) rfl <| O.m rfl rfl ?_
   refine by_bool (decide ((s.length : Int) = 1)) (fun h7 => ?_) (fun h7 => ?_)
   ·
    have p8 := of_decide_eq_true h7
    refine O.gskip (t := 19) rfl rfl (no_bool (by rw [h7]; decide)) rfl rfl <| O.gskip (t := 19) rfl rfl (no_bool (by rw [h7]; decide)) rfl rfl <| O.gskip (t := 19) rfl rfl (no_bool (by rw [h7]; decide)) rfl rfl <| O.gskip (t := 19) rfl rfl (no_bool (by rw [h7]; decide)) rfl rfl <| O.gskip (t := 19) rfl rfl (no_bool (by rw [h7]; decide)) rfl rfl <| O.p (Pu.pickT rfl h7 rfl) rfl <| O.nil <| J.condT rfl rfl <| J.seq <| J.region <| O.a rfl rfl <| O.a rfl rfl ?_
    refine O.nil ?_
    exact J.ret (Fin.ret (rs := [.tmp 2, .tmp 3]) rfl [_, _] ⟨rfl, rfl, trivial⟩ [] (by decide) [] rfl ⟨(by first | (rw [Dc.parse_early (Dc.sg_none ‹_›) (by omega)]; rfl) | (rw [Dc.parse_early (Dc.sg_one ‹_› ‹_›) (by omega)]; rfl) | (rw [Dc.parse_early (Dc.sg_zero ‹_› ‹_›) (by omega)]; rfl) | (rw [Dc.parse_byte hsg hfi ‹_› (by unfold Dc.isD; omega)]; rfl) | (have hi_ : i = s.length := (by omega); subst hi_; have hf_ : fr = 0 := (by omega); subst hf_; subst hacc; rw [Dc.parse_last0 hsg ‹_›]; rfl) | (have hi_ : i = s.length := (by omega); subst hi_; have hf_ : fr = 1 := (by have := Dc.sg_split hsg; omega); subst hf_; subst hacc; rw [Dc.parse_last1 hsg ‹_›]; rfl)), rfl⟩)
   ·
    have p9 := of_decide_eq_false h7
    refine O.gq (t := 19) rfl rfl h7 rfl (Pu.qt (Pu.move rfl)) rfl <| O.gq (t := 19) rfl rfl h7 rfl (Pu.qt (Pu.sLen runUnderlying9 rfl)) rfl <| O.gq (t := 19) rfl rfl h7 rfl (Pu.qt (Pu.move rfl)) rfl <| O.gq (t := 19) rfl rfl h7 rfl (Pu.qt (Pu.add' rfl rfl (by first | omega | (simp only [List.length_append, List.length_cons, List.length_nil, List.length_set]; omega)))) rfl <| O.gq (t := 19) rfl rfl h7 rfl (Pu.qt (Pu.gtr rfl rfl)) rfl <| O.p (Pu.pickF rfl h7 rfl) rfl <| O.nil ?_
    refine J.cond rfl (fun h10 => ?_) (fun h10 => ?_)
    ·
     have p11 := of_decide_eq_true h10
     refine J.seq <| J.region <| O.a rfl rfl <| O.a rfl rfl <| O.nil ?_
     exact J.ret (Fin.ret (rs := [.tmp 2, .tmp 3]) rfl [_, _] ⟨rfl, rfl, trivial⟩ [] (by decide) [] rfl ⟨(by first | (rw [Dc.parse_early (Dc.sg_none ‹_›) (by omega)]; rfl) | (rw [Dc.parse_early (Dc.sg_one ‹_› ‹_›) (by omega)]; rfl) | (rw [Dc.parse_early (Dc.sg_zero ‹_› ‹_›) (by omega)]; rfl) | (rw [Dc.parse_byte hsg hfi ‹_› (by unfold Dc.isD; omega)]; rfl) | (have hi_ : i = s.length := (by omega); subst hi_; have hf_ : fr = 0 := (by omega); subst hf_; subst hacc; rw [Dc.parse_last0 hsg ‹_›]; rfl) | (have hi_ : i = s.length := (by omega); subst hi_; have hf_ : fr = 1 := (by have := Dc.sg_split hsg; omega); subst hf_; subst hacc; rw [Dc.parse_last1 hsg ‹_›]; rfl)), rfl⟩)
    ·
     have p12 := of_decide_eq_false h10
     refine J.skip <| J.seq <| J.region <| O.a rfl rfl <| O.nil <| J.seq <| J.seq <| J.region <| O.m rfl rfl <| O.a rfl rfl <| O.nil <| J.block ?_
     refine J.loop (X := Nat × Nat × Int) (fun ξ => ξ.1 ≤ ξ.2.1 ∧ ξ.2.1 ≤ s.length ∧ ξ.2.2 = Dc.accN s ξ.1 ξ.2.1 ∧ Dc.digs s ξ.1 ξ.2.1 ∧ Dc.Sg s ξ.1) (fun ξ => [(0, str s), (4, .int .i64 (ξ.1 : Int)), (5, .int .i64 ξ.2.2), (6, .int .i64 (ξ.2.1 : Int))]) (fun ξ => []) (fun ξ => s.length - ξ.2.1) ⟨1, 1, 0⟩ (show 1 ≤ 1 ∧ 1 ≤ s.length ∧ 0 = Dc.accN s 1 1 ∧ Dc.digs s 1 1 ∧ Dc.Sg s 1 from ⟨Nat.le_refl _, (by omega), Dc.accN_start.symm, fun j c h1 h2 => by omega, (by first | exact Dc.sg_none ‹_› | exact Dc.sg_one ‹_› ‹_› | exact Dc.sg_zero ‹_› ‹_›)⟩) ⟨rfl, (congrArg (fun z => some (Value.int .i64 z)) (by first | rfl | omega : (1 : Int) = (1 : Int))), rfl, (congrArg (fun z => some (Value.int .i64 z)) (by first | rfl | omega : (1 : Int) = (1 : Int))), trivial⟩ [] (by decide) rfl ?_
     rintro ⟨fr, i, n⟩ hq13
     obtain ⟨hfi, hi, hacc, hdg, hsg⟩ : fr ≤ i ∧ i ≤ s.length ∧ n = Dc.accN s fr i ∧ Dc.digs s fr i ∧ Dc.Sg s fr := hq13
     show J _ _ [(0, str s), (4, .int .i64 (fr : Int)), (5, .int .i64 n), (6, .int .i64 (i : Int))] []
     refine J.seq <| J.seq <| J.region <| O.m rfl rfl <| O.m rfl rfl <| O.p (Pu.sLen runUnderlying9 rfl) rfl <| O.p (Pu.lss rfl rfl) rfl <| O.nil ?_
     refine J.cond rfl (fun h14 => ?_) (fun h14 => ?_)
     ·
      have p15 := of_decide_eq_true h14
      refine J.skip <| J.seq <| J.block <| J.seq <| J.seq <| J.region <| O.m rfl rfl <| O.m rfl rfl ?_
      obtain ⟨b16, hb17⟩ : ∃ x_, s[((i : Int) : Int).toNat]? = some x_ := ⟨_, List.getElem?_eq_getElem (by first | omega | (simp only [List.length_append, List.length_cons, List.length_nil, List.length_set]; omega))⟩
      refine O.p (Pu.sIdx runUnderlying9 rfl rfl (by first | omega | (simp only [List.length_append, List.length_cons, List.length_nil, List.length_set]; omega)) hb17) rfl <| O.p (Pu.lss rfl rfl) rfl <| O.m rfl rfl ?_
      refine by_bool (decide ((b16.toNat : Int) < 48)) (fun h18 => ?_) (fun h18 => ?_)
      ·
       have p19 := of_decide_eq_true h18
       refine O.gskip (t := 37) rfl rfl (no_bool (by rw [h18]; decide)) rfl rfl <| O.gskip (t := 37) rfl rfl (no_bool (by rw [h18]; decide)) rfl rfl <| O.gskip (t := 37) rfl rfl (no_bool (by rw [h18]; decide)) rfl rfl <| O.gskip (t := 37) rfl rfl (no_bool (by rw [h18]; decide)) rfl rfl <| O.p (Pu.pickT rfl h18 rfl) rfl <| O.nil <| J.condT rfl rfl <| J.seq <| J.region <| O.a rfl rfl <| O.a rfl rfl <| O.nil ?_
       exact J.ret (Fin.ret (rs := [.tmp 2, .tmp 3]) rfl [_, _] ⟨rfl, rfl, trivial⟩ [] (by decide) [] rfl ⟨(by first | (rw [Dc.parse_early (Dc.sg_none ‹_›) (by omega)]; rfl) | (rw [Dc.parse_early (Dc.sg_one ‹_› ‹_›) (by omega)]; rfl) | (rw [Dc.parse_early (Dc.sg_zero ‹_› ‹_›) (by omega)]; rfl) | (rw [Dc.parse_byte hsg hfi ‹_› (by unfold Dc.isD; omega)]; rfl) | (have hi_ : i = s.length := (by omega); subst hi_; have hf_ : fr = 0 := (by omega); subst hf_; subst hacc; rw [Dc.parse_last0 hsg ‹_›]; rfl) | (have hi_ : i = s.length := (by omega); subst hi_; have hf_ : fr = 1 := (by have := Dc.sg_split hsg; omega); subst hf_; subst hacc; rw [Dc.parse_last1 hsg ‹_›]; rfl)), rfl⟩)
      ·
       have p20 := of_decide_eq_false h18
       refine O.gq (t := 37) rfl rfl h18 rfl (Pu.qt (Pu.move rfl)) rfl <| O.gq (t := 37) rfl rfl h18 rfl (Pu.qt (Pu.move rfl)) rfl <| O.gq (t := 37) rfl rfl h18 rfl (Pu.qt (Pu.sIdx runUnderlying9 rfl rfl (by first | omega | (simp only [List.length_append, List.length_cons, List.length_nil, List.length_set]; omega)) hb17)) rfl <| O.gq (t := 37) rfl rfl h18 rfl (Pu.qt (Pu.gtr rfl rfl)) rfl <| O.p (Pu.pickF rfl h18 rfl) rfl <| O.nil ?_
       refine J.cond rfl (fun h23 => ?_) (fun h23 => ?_)
       ·
        have p24 := of_decide_eq_true h23
        refine J.seq <| J.region <| O.a rfl rfl <| O.a rfl rfl <| O.nil ?_
        exact J.ret (Fin.ret (rs := [.tmp 2, .tmp 3]) rfl [_, _] ⟨rfl, rfl, trivial⟩ [] (by decide) [] rfl ⟨(by first | (rw [Dc.parse_early (Dc.sg_none ‹_›) (by omega)]; rfl) | (rw [Dc.parse_early (Dc.sg_one ‹_› ‹_›) (by omega)]; rfl) | (rw [Dc.parse_early (Dc.sg_zero ‹_› ‹_›) (by omega)]; rfl) | (rw [Dc.parse_byte hsg hfi ‹_› (by unfold Dc.isD; omega)]; rfl) | (have hi_ : i = s.length := (by omega); subst hi_; have hf_ : fr = 0 := (by omega); subst hf_; subst hacc; rw [Dc.parse_last0 hsg ‹_›]; rfl) | (have hi_ : i = s.length := (by omega); subst hi_; have hf_ : fr = 1 := (by have := Dc.sg_split hsg; omega); subst hf_; subst hacc; rw [Dc.parse_last1 hsg ‹_›]; rfl)), rfl⟩)
       ·
        have p25 := of_decide_eq_false h23
        refine J.skip <| J.region <| O.m rfl rfl <| O.p (Pu.mul rfl rfl) rfl <| O.m rfl rfl <| O.m rfl rfl <| O.p (Pu.sIdx runUnderlying9 rfl rfl (by first | omega | (simp only [List.length_append, List.length_cons, List.length_nil, List.length_set]; omega)) hb17) rfl <| O.p (Pu.to (Pu.sub rfl rfl) (congrArg (Value.int .u8) (Dc.u8_id (by omega)))) rfl <| O.p (Pu.to (Pu.conv runUnderlying5 runUnderlying3 rfl) (congrArg (Value.int .i64) (in_i64 (by omega)))) rfl <| O.p (Pu.sub rfl rfl) rfl <| O.a rfl rfl <| O.nil ?_
        refine J.blk <| J.region <| O.m rfl rfl <| O.p (Pu.add' rfl rfl (by first | omega | (simp only [List.length_append, List.length_cons, List.length_nil, List.length_set]; omega))) rfl <| O.a rfl rfl <| O.nil ?_
        exact J.lp ⟨fr, i + 1, IntKind.i64.wrap ((IntKind.i64.wrap (10 * n)) - ((b16.toNat : Int) - 48))⟩ (show fr ≤ (i + 1) ∧ (i + 1) ≤ s.length ∧ (IntKind.i64.wrap ((IntKind.i64.wrap (10 * n)) - ((b16.toNat : Int) - 48))) = Dc.accN s fr (i + 1) ∧ Dc.digs s fr (i + 1) ∧ Dc.Sg s fr from ⟨by omega, by omega, (by rw [Dc.accN_next hfi ‹_›, ← hacc]; rfl), Dc.digs_next hdg ‹_› (by unfold Dc.isD; omega), hsg⟩) (show s.length - (i + 1) < s.length - i from (by first | omega | (simp only [List.length_append, List.length_cons, List.length_nil, List.length_set]; omega))) ⟨rfl, rfl, rfl, (congrArg (fun z => some (Value.int .i64 z)) (by first | rfl | omega : ((i : Int) + 1 : Int) = ((i + 1) : Int))), trivial⟩ [] (by decide) rfl
     ·
      have p28 := of_decide_eq_false h14
      refine J.exit _ rfl <| J.seq <| J.seq <| J.region <| O.m rfl rfl <| O.p (Pu.eql rfl rfl) rfl <| O.nil ?_
      refine J.cond rfl (fun h29 => ?_) (fun h29 => ?_)
      ·
       have p30 := of_decide_eq_true h29
       refine J.region <| O.m rfl rfl <| O.p (Pu.neg rfl) rfl <| O.a rfl rfl <| O.nil <| J.seq <| J.seq <| J.region <| O.m rfl rfl <| O.l (Lo.call [.int .i64 (IntKind.i64.wrap (0 - n))] (by exact call76) rfl (r05_Text (IntKind.i64.wrap (0 - n)) (by first | exact Dc.i64_wrap _ | exact hacc ▸ Dc.accN_range)) [] [] (by decide) rfl [] rfl RoOk.nil) rfl ?_
       rintro _ _ ⟨_, ⟨rfl, rfl⟩, rfl⟩
       refine O.m rfl rfl <| O.p (Pu.sNeq rfl rfl) rfl <| O.nil ?_
       refine J.cond rfl (fun h32 => ?_) (fun h32 => ?_)
       ·
        have h33 : ((Lib.itoa (IntKind.i64.wrap (0 - n))) == s) = false := not_flip h32
        refine J.seq <| J.region <| O.a rfl rfl <| O.a rfl rfl <| O.nil ?_
        exact J.ret (Fin.ret (rs := [.tmp 2, .tmp 3]) rfl [_, _] ⟨rfl, rfl, trivial⟩ [] (by decide) [] rfl ⟨(by first | (rw [Dc.parse_early (Dc.sg_none ‹_›) (by omega)]; rfl) | (rw [Dc.parse_early (Dc.sg_one ‹_› ‹_›) (by omega)]; rfl) | (rw [Dc.parse_early (Dc.sg_zero ‹_› ‹_›) (by omega)]; rfl) | (rw [Dc.parse_byte hsg hfi ‹_› (by unfold Dc.isD; omega)]; rfl) | (have hi_ : i = s.length := (by omega); subst hi_; have hf_ : fr = 0 := (by omega); subst hf_; subst hacc; rw [Dc.parse_last0 hsg ‹_›]; rfl) | (have hi_ : i = s.length := (by omega); subst hi_; have hf_ : fr = 1 := (by have := Dc.sg_split hsg; omega); subst hf_; subst hacc; rw [Dc.parse_last1 hsg ‹_›]; rfl)), rfl⟩)
       ·
        have h34 : ((Lib.itoa (IntKind.i64.wrap (0 - n))) == s) = true := not_flip h32
        refine J.skip <| J.seq <| J.region <| O.m rfl rfl <| O.a rfl rfl <| O.a rfl rfl <| O.nil ?_
        exact J.ret (Fin.ret (rs := [.tmp 2, .tmp 3]) rfl [_, _] ⟨rfl, rfl, trivial⟩ [] (by decide) [] rfl ⟨(by rw [Dc.parse_at (n := IntKind.i64.wrap (0 - n)) (by first | exact Dc.i64_wrap _ | exact hacc ▸ Dc.accN_range) ‹_›]; rfl), rfl⟩)
      ·
       have p35 := of_decide_eq_false h29
       refine J.skip <| J.seq <| J.seq <| J.region <| O.m rfl rfl <| O.l (Lo.call [.int .i64 n] (by exact call76) rfl (r05_Text n (by first | exact Dc.i64_wrap _ | exact hacc ▸ Dc.accN_range)) [] [] (by decide) rfl [] rfl RoOk.nil) rfl ?_
       rintro _ _ ⟨_, ⟨rfl, rfl⟩, rfl⟩
       refine O.m rfl rfl <| O.p (Pu.sNeq rfl rfl) rfl <| O.nil ?_
       refine J.cond rfl (fun h37 => ?_) (fun h37 => ?_)
       ·
        have h38 : ((Lib.itoa n) == s) = false := not_flip h37
        refine J.seq <| J.region <| O.a rfl rfl <| O.a rfl rfl <| O.nil ?_
        exact J.ret (Fin.ret (rs := [.tmp 2, .tmp 3]) rfl [_, _] ⟨rfl, rfl, trivial⟩ [] (by decide) [] rfl ⟨(by first | (rw [Dc.parse_early (Dc.sg_none ‹_›) (by omega)]; rfl) | (rw [Dc.parse_early (Dc.sg_one ‹_› ‹_›) (by omega)]; rfl) | (rw [Dc.parse_early (Dc.sg_zero ‹_› ‹_›) (by omega)]; rfl) | (rw [Dc.parse_byte hsg hfi ‹_› (by unfold Dc.isD; omega)]; rfl) | (have hi_ : i = s.length := (by omega); subst hi_; have hf_ : fr = 0 := (by omega); subst hf_; subst hacc; rw [Dc.parse_last0 hsg ‹_›]; rfl) | (have hi_ : i = s.length := (by omega); subst hi_; have hf_ : fr = 1 := (by have := Dc.sg_split hsg; omega); subst hf_; subst hacc; rw [Dc.parse_last1 hsg ‹_›]; rfl)), rfl⟩)
       ·
        have h39 : ((Lib.itoa n) == s) = true := not_flip h37
        refine J.skip <| J.seq <| J.region <| O.m rfl rfl <| O.a rfl rfl <| O.a rfl rfl <| O.nil ?_
        exact J.ret (Fin.ret (rs := [.tmp 2, .tmp 3]) rfl [_, _] ⟨rfl, rfl, trivial⟩ [] (by decide) [] rfl ⟨(by rw [Dc.parse_at (n := n) (by first | exact Dc.i64_wrap _ | exact hacc ▸ Dc.accN_range) ‹_›]; rfl), rfl⟩)
  ·
   have p40 := of_decide_eq_false h5
   refine J.skip <| J.seq <| J.seq <| J.region <| O.m rfl rfl <| O.p (Pu.sLen runUnderlying9 rfl) rfl <| O.m rfl rfl <| O.p (Pu.eql rfl rfl) rfl <| O.m rfl rfl ?_
   refine by_bool (decide ((s.length : Int) = 0)) (fun h41 => ?_) (fun h41 => ?_)
   ·
    have p42 := of_decide_eq_true h41
    refine O.gskip (t := 19) rfl rfl (no_bool (by rw [h41]; decide)) rfl rfl <| O.gskip (t := 19) rfl rfl (no_bool (by rw [h41]; decide)) rfl rfl <| O.gskip (t := 19) rfl rfl (no_bool (by rw [h41]; decide)) rfl rfl <| O.gskip (t := 19) rfl rfl (no_bool (by rw [h41]; decide)) rfl rfl <| O.gskip (t := 19) rfl rfl (no_bool (by rw [h41]; decide)) rfl rfl <| O.p (Pu.pickT rfl h41 rfl) rfl <| O.nil <| J.condT rfl rfl <| J.seq <| J.region <| O.a rfl rfl <| O.a rfl rfl ?_
    refine O.nil ?_
    exact J.ret (Fin.ret (rs := [.tmp 2, .tmp 3]) rfl [_, _] ⟨rfl, rfl, trivial⟩ [] (by decide) [] rfl ⟨(by first | (rw [Dc.parse_early (Dc.sg_none ‹_›) (by omega)]; rfl) | (rw [Dc.parse_early (Dc.sg_one ‹_› ‹_›) (by omega)]; rfl) | (rw [Dc.parse_early (Dc.sg_zero ‹_› ‹_›) (by omega)]; rfl) | (rw [Dc.parse_byte hsg hfi ‹_› (by unfold Dc.isD; omega)]; rfl) | (have hi_ : i = s.length := (by omega); subst hi_; have hf_ : fr = 0 := (by omega); subst hf_; subst hacc; rw [Dc.parse_last0 hsg ‹_›]; rfl) | (have hi_ : i = s.length := (by omega); subst hi_; have hf_ : fr = 1 := (by have := Dc.sg_split hsg; omega); subst hf_; subst hacc; rw [Dc.parse_last1 hsg ‹_›]; rfl)), rfl⟩)
   ·
    have p43 := of_decide_eq_false h41
    refine O.gq (t := 19) rfl rfl h41 rfl (Pu.qt (Pu.move rfl)) rfl <| O.gq (t := 19) rfl rfl h41 rfl (Pu.qt (Pu.sLen runUnderlying9 rfl)) rfl <| O.gq (t := 19) rfl rfl h41 rfl (Pu.qt (Pu.move rfl)) rfl <| O.gq (t := 19) rfl rfl h41 rfl (Pu.qt (Pu.add' rfl rfl (by first | omega | (simp only [List.length_append, List.length_cons, List.length_nil, List.length_set]; omega)))) rfl <| O.gq (t := 19) rfl rfl h41 rfl (Pu.qt (Pu.gtr rfl rfl)) rfl <| O.p (Pu.pickF rfl h41 rfl) rfl <| O.nil ?_
    refine J.cond rfl (fun h44 => ?_) (fun h44 => ?_)
    ·
     have p45 := of_decide_eq_true h44
     refine J.seq <| J.region <| O.a rfl rfl <| O.a rfl rfl <| O.nil ?_
     exact J.ret (Fin.ret (rs := [.tmp 2, .tmp 3]) rfl [_, _] ⟨rfl, rfl, trivial⟩ [] (by decide) [] rfl ⟨(by first | (rw [Dc.parse_early (Dc.sg_none ‹_›) (by omega)]; rfl) | (rw [Dc.parse_early (Dc.sg_one ‹_› ‹_›) (by omega)]; rfl) | (rw [Dc.parse_early (Dc.sg_zero ‹_› ‹_›) (by omega)]; rfl) | (rw [Dc.parse_byte hsg hfi ‹_› (by unfold Dc.isD; omega)]; rfl) | (have hi_ : i = s.length := (by omega); subst hi_; have hf_ : fr = 0 := (by omega); subst hf_; subst hacc; rw [Dc.parse_last0 hsg ‹_›]; rfl) | (have hi_ : i = s.length := (by omega); subst hi_; have hf_ : fr = 1 := (by have := Dc.sg_split hsg; omega); subst hf_; subst hacc; rw [Dc.parse_last1 hsg ‹_›]; rfl)), rfl⟩)
    ·
     have p46 := of_decide_eq_false h44
     refine J.skip <| J.seq <| J.region <| O.a rfl rfl <| O.nil <| J.seq <| J.seq <| J.region <| O.m rfl rfl <| O.a rfl rfl <| O.nil <| J.block ?_
     refine J.loop (X := Nat × Nat × Int) (fun ξ => ξ.1 ≤ ξ.2.1 ∧ ξ.2.1 ≤ s.length ∧ ξ.2.2 = Dc.accN s ξ.1 ξ.2.1 ∧ Dc.digs s ξ.1 ξ.2.1 ∧ Dc.Sg s ξ.1) (fun ξ => [(0, str s), (4, .int .i64 (ξ.1 : Int)), (5, .int .i64 ξ.2.2), (6, .int .i64 (ξ.2.1 : Int))]) (fun ξ => []) (fun ξ => s.length - ξ.2.1) ⟨0, 0, 0⟩ (show 0 ≤ 0 ∧ 0 ≤ s.length ∧ 0 = Dc.accN s 0 0 ∧ Dc.digs s 0 0 ∧ Dc.Sg s 0 from ⟨Nat.le_refl _, (by omega), Dc.accN_start.symm, fun j c h1 h2 => by omega, (by first | exact Dc.sg_none ‹_› | exact Dc.sg_one ‹_› ‹_› | exact Dc.sg_zero ‹_› ‹_›)⟩) ⟨rfl, (congrArg (fun z => some (Value.int .i64 z)) (by first | rfl | omega : (0 : Int) = (0 : Int))), rfl, (congrArg (fun z => some (Value.int .i64 z)) (by first | rfl | omega : (0 : Int) = (0 : Int))), trivial⟩ [] (by decide) rfl ?_
     rintro ⟨fr, i, n⟩ hq47
     obtain ⟨hfi, hi, hacc, hdg, hsg⟩ : fr ≤ i ∧ i ≤ s.length ∧ n = Dc.accN s fr i ∧ Dc.digs s fr i ∧ Dc.Sg s fr := hq47
     show J _ _ [(0, str s), (4, .int .i64 (fr : Int)), (5, .int .i64 n), (6, .int .i64 (i : Int))] []
     refine J.seq <| J.seq <| J.region <| O.m rfl rfl <| O.m rfl rfl <| O.p (Pu.sLen runUnderlying9 rfl) rfl <| O.p (Pu.lss rfl rfl) rfl <| O.nil ?_
     refine J.cond rfl (fun h48 => ?_) (fun h48 => ?_)
     ·
      have p49 := of_decide_eq_true h48
      refine J.skip <| J.seq <| J.block <| J.seq <| J.seq <| J.region <| O.m rfl rfl <| O.m rfl rfl ?_
      obtain ⟨b50, hb51⟩ : ∃ x_, s[((i : Int) : Int).toNat]? = some x_ := ⟨_, List.getElem?_eq_getElem (by first | omega | (simp only [List.length_append, List.length_cons, List.length_nil, List.length_set]; omega))⟩
      refine O.p (Pu.sIdx runUnderlying9 rfl rfl (by first | omega | (simp only [List.length_append, List.length_cons, List.length_nil, List.length_set]; omega)) hb51) rfl <| O.p (Pu.lss rfl rfl) rfl <| O.m rfl rfl ?_
      refine by_bool (decide ((b50.toNat : Int) < 48)) (fun h52 => ?_) (fun h52 => ?_)
      ·
       have p53 := of_decide_eq_true h52
       refine O.gskip (t := 37) rfl rfl (no_bool (by rw [h52]; decide)) rfl rfl <| O.gskip (t := 37) rfl rfl (no_bool (by rw [h52]; decide)) rfl rfl <| O.gskip (t := 37) rfl rfl (no_bool (by rw [h52]; decide)) rfl rfl <| O.gskip (t := 37) rfl rfl (no_bool (by rw [h52]; decide)) rfl rfl <| O.p (Pu.pickT rfl h52 rfl) rfl <| O.nil <| J.condT rfl rfl <| J.seq <| J.region <| O.a rfl rfl <| O.a rfl rfl <| O.nil ?_
       exact J.ret (Fin.ret (rs := [.tmp 2, .tmp 3]) rfl [_, _] ⟨rfl, rfl, trivial⟩ [] (by decide) [] rfl ⟨(by first | (rw [Dc.parse_early (Dc.sg_none ‹_›) (by omega)]; rfl) | (rw [Dc.parse_early (Dc.sg_one ‹_› ‹_›) (by omega)]; rfl) | (rw [Dc.parse_early (Dc.sg_zero ‹_› ‹_›) (by omega)]; rfl) | (rw [Dc.parse_byte hsg hfi ‹_› (by unfold Dc.isD; omega)]; rfl) | (have hi_ : i = s.length := (by omega); subst hi_; have hf_ : fr = 0 := (by omega); subst hf_; subst hacc; rw [Dc.parse_last0 hsg ‹_›]; rfl) | (have hi_ : i = s.length := (by omega); subst hi_; have hf_ : fr = 1 := (by have := Dc.sg_split hsg; omega); subst hf_; subst hacc; rw [Dc.parse_last1 hsg ‹_›]; rfl)), rfl⟩)
      ·
       have p54 := of_decide_eq_false h52
       refine O.gq (t := 37) rfl rfl h52 rfl (Pu.qt (Pu.move rfl)) rfl <| O.gq (t := 37) rfl rfl h52 rfl (Pu.qt (Pu.move rfl)) rfl <| O.gq (t := 37) rfl rfl h52 rfl (Pu.qt (Pu.sIdx runUnderlying9 rfl rfl (by first | omega | (simp only [List.length_append, List.length_cons, List.length_nil, List.length_set]; omega)) hb51)) rfl <| O.gq (t := 37) rfl rfl h52 rfl (Pu.qt (Pu.gtr rfl rfl)) rfl <| O.p (Pu.pickF rfl h52 rfl) rfl <| O.nil ?_
       refine J.cond rfl (fun h57 => ?_) (fun h57 => ?_)
       ·
        have p58 := of_decide_eq_true h57
        refine J.seq <| J.region <| O.a rfl rfl <| O.a rfl rfl <| O.nil ?_
        exact J.ret (Fin.ret (rs := [.tmp 2, .tmp 3]) rfl [_, _] ⟨rfl, rfl, trivial⟩ [] (by decide) [] rfl ⟨(by first | (rw [Dc.parse_early (Dc.sg_none ‹_›) (by omega)]; rfl) | (rw [Dc.parse_early (Dc.sg_one ‹_› ‹_›) (by omega)]; rfl) | (rw [Dc.parse_early (Dc.sg_zero ‹_› ‹_›) (by omega)]; rfl) | (rw [Dc.parse_byte hsg hfi ‹_› (by unfold Dc.isD; omega)]; rfl) | (have hi_ : i = s.length := (by omega); subst hi_; have hf_ : fr = 0 := (by omega); subst hf_; subst hacc; rw [Dc.parse_last0 hsg ‹_›]; rfl) | (have hi_ : i = s.length := (by omega); subst hi_; have hf_ : fr = 1 := (by have := Dc.sg_split hsg; omega); subst hf_; subst hacc; rw [Dc.parse_last1 hsg ‹_›]; rfl)), rfl⟩)
       ·
        have p59 := of_decide_eq_false h57
        refine J.skip <| J.region <| O.m rfl rfl <| O.p (Pu.mul rfl rfl) rfl <| O.m rfl rfl <| O.m rfl rfl <| O.p (Pu.sIdx runUnderlying9 rfl rfl (by first | omega | (simp only [List.length_append, List.length_cons, List.length_nil, List.length_set]; omega)) hb51) rfl <| O.p (Pu.to (Pu.sub rfl rfl) (congrArg (Value.int .u8) (Dc.u8_id (by omega)))) rfl <| O.p (Pu.to (Pu.conv runUnderlying5 runUnderlying3 rfl) (congrArg (Value.int .i64) (in_i64 (by omega)))) rfl <| O.p (Pu.sub rfl rfl) rfl <| O.a rfl rfl <| O.nil ?_
        refine J.blk <| J.region <| O.m rfl rfl <| O.p (Pu.add' rfl rfl (by first | omega | (simp only [List.length_append, List.length_cons, List.length_nil, List.length_set]; omega))) rfl <| O.a rfl rfl <| O.nil ?_
        exact J.lp ⟨fr, i + 1, IntKind.i64.wrap ((IntKind.i64.wrap (10 * n)) - ((b50.toNat : Int) - 48))⟩ (show fr ≤ (i + 1) ∧ (i + 1) ≤ s.length ∧ (IntKind.i64.wrap ((IntKind.i64.wrap (10 * n)) - ((b50.toNat : Int) - 48))) = Dc.accN s fr (i + 1) ∧ Dc.digs s fr (i + 1) ∧ Dc.Sg s fr from ⟨by omega, by omega, (by rw [Dc.accN_next hfi ‹_›, ← hacc]; rfl), Dc.digs_next hdg ‹_› (by unfold Dc.isD; omega), hsg⟩) (show s.length - (i + 1) < s.length - i from (by first | omega | (simp only [List.length_append, List.length_cons, List.length_nil, List.length_set]; omega))) ⟨rfl, rfl, rfl, (congrArg (fun z => some (Value.int .i64 z)) (by first | rfl | omega : ((i : Int) + 1 : Int) = ((i + 1) : Int))), trivial⟩ [] (by decide) rfl
     ·
      have p62 := of_decide_eq_false h48
      refine J.exit _ rfl <| J.seq <| J.seq <| J.region <| O.m rfl rfl <| O.p (Pu.eql rfl rfl) rfl <| O.nil ?_
      refine J.cond rfl (fun h63 => ?_) (fun h63 => ?_)
      ·
       have p64 := of_decide_eq_true h63
       refine J.region <| O.m rfl rfl <| O.p (Pu.neg rfl) rfl <| O.a rfl rfl <| O.nil <| J.seq <| J.seq <| J.region <| O.m rfl rfl <| O.l (Lo.call [.int .i64 (IntKind.i64.wrap (0 - n))] (by exact call76) rfl (r05_Text (IntKind.i64.wrap (0 - n)) (by first | exact Dc.i64_wrap _ | exact hacc ▸ Dc.accN_range)) [] [] (by decide) rfl [] rfl RoOk.nil) rfl ?_
       rintro _ _ ⟨_, ⟨rfl, rfl⟩, rfl⟩
       refine O.m rfl rfl <| O.p (Pu.sNeq rfl rfl) rfl <| O.nil ?_
       refine J.cond rfl (fun h66 => ?_) (fun h66 => ?_)
       ·
        have h67 : ((Lib.itoa (IntKind.i64.wrap (0 - n))) == s) = false := not_flip h66
        refine J.seq <| J.region <| O.a rfl rfl <| O.a rfl rfl <| O.nil ?_
        exact J.ret (Fin.ret (rs := [.tmp 2, .tmp 3]) rfl [_, _] ⟨rfl, rfl, trivial⟩ [] (by decide) [] rfl ⟨(by first | (rw [Dc.parse_early (Dc.sg_none ‹_›) (by omega)]; rfl) | (rw [Dc.parse_early (Dc.sg_one ‹_› ‹_›) (by omega)]; rfl) | (rw [Dc.parse_early (Dc.sg_zero ‹_› ‹_›) (by omega)]; rfl) | (rw [Dc.parse_byte hsg hfi ‹_› (by unfold Dc.isD; omega)]; rfl) | (have hi_ : i = s.length := (by omega); subst hi_; have hf_ : fr = 0 := (by omega); subst hf_; subst hacc; rw [Dc.parse_last0 hsg ‹_›]; rfl) | (have hi_ : i = s.length := (by omega); subst hi_; have hf_ : fr = 1 := (by have := Dc.sg_split hsg; omega); subst hf_; subst hacc; rw [Dc.parse_last1 hsg ‹_›]; rfl)), rfl⟩)
       ·
        have h68 : ((Lib.itoa (IntKind.i64.wrap (0 - n))) == s) = true := not_flip h66
        refine J.skip <| J.seq <| J.region <| O.m rfl rfl <| O.a rfl rfl <| O.a rfl rfl <| O.nil ?_
        exact J.ret (Fin.ret (rs := [.tmp 2, .tmp 3]) rfl [_, _] ⟨rfl, rfl, trivial⟩ [] (by decide) [] rfl ⟨(by rw [Dc.parse_at (n := IntKind.i64.wrap (0 - n)) (by first | exact Dc.i64_wrap _ | exact hacc ▸ Dc.accN_range) ‹_›]; rfl), rfl⟩)
      ·
       have p69 := of_decide_eq_false h63
       refine J.skip <| J.seq <| J.seq <| J.region <| O.m rfl rfl <| O.l (Lo.call [.int .i64 n] (by exact call76) rfl (r05_Text n (by first | exact Dc.i64_wrap _ | exact hacc ▸ Dc.accN_range)) [] [] (by decide) rfl [] rfl RoOk.nil) rfl ?_
       rintro _ _ ⟨_, ⟨rfl, rfl⟩, rfl⟩
       refine O.m rfl rfl <| O.p (Pu.sNeq rfl rfl) rfl <| O.nil ?_
       refine J.cond rfl (fun h71 => ?_) (fun h71 => ?_)
       ·
        have h72 : ((Lib.itoa n) == s) = false := not_flip h71
        refine J.seq <| J.region <| O.a rfl rfl <| O.a rfl rfl <| O.nil ?_
        exact J.ret (Fin.ret (rs := [.tmp 2, .tmp 3]) rfl [_, _] ⟨rfl, rfl, trivial⟩ [] (by decide) [] rfl ⟨(by first | (rw [Dc.parse_early (Dc.sg_none ‹_›) (by omega)]; rfl) | (rw [Dc.parse_early (Dc.sg_one ‹_› ‹_›) (by omega)]; rfl) | (rw [Dc.parse_early (Dc.sg_zero ‹_› ‹_›) (by omega)]; rfl) | (rw [Dc.parse_byte hsg hfi ‹_› (by unfold Dc.isD; omega)]; rfl) | (have hi_ : i = s.length := (by omega); subst hi_; have hf_ : fr = 0 := (by omega); subst hf_; subst hacc; rw [Dc.parse_last0 hsg ‹_›]; rfl) | (have hi_ : i = s.length := (by omega); subst hi_; have hf_ : fr = 1 := (by have := Dc.sg_split hsg; omega); subst hf_; subst hacc; rw [Dc.parse_last1 hsg ‹_›]; rfl)), rfl⟩)
       ·
        have h73 : ((Lib.itoa n) == s) = true := not_flip h71
        refine J.skip <| J.seq <| J.region <| O.m rfl rfl <| O.a rfl rfl <| O.a rfl rfl <| O.nil ?_
        exact J.ret (Fin.ret (rs := [.tmp 2, .tmp 3]) rfl [_, _] ⟨rfl, rfl, trivial⟩ [] (by decide) [] rfl ⟨(by rw [Dc.parse_at (n := n) (by first | exact Dc.i64_wrap _ | exact hacc ▸ Dc.accN_range) ‹_›]; rfl), rfl⟩)
 ·
  have p74 := of_decide_eq_false h1
  refine O.gskip (t := 10) rfl rfl (no_bool (by rw [h1]; decide)) rfl rfl <| O.gskip (t := 10) rfl rfl (no_bool (by rw [h1]; decide)) rfl rfl <| O.gskip (t := 10) rfl rfl (no_bool (by rw [h1]; decide)) rfl rfl <| O.p (Pu.pickF rfl h1 rfl) rfl <| O.nil <| J.condF rfl rfl <| J.skip <| J.seq <| J.seq <| J.region <| O.m rfl rfl <| O.p (Pu.sLen runUnderlying9 rfl) rfl ?_
  refine O.m rfl rfl <| O.p (Pu.eql rfl rfl) rfl <| O.m rfl rfl ?_
  refine by_bool (decide ((s.length : Int) = 0)) (fun h75 => ?_) (fun h75 => ?_)
  ·
   have p76 := of_decide_eq_true h75
   refine O.gskip (t := 19) rfl rfl (no_bool (by rw [h75]; decide)) rfl rfl <| O.gskip (t := 19) rfl rfl (no_bool (by rw [h75]; decide)) rfl rfl <| O.gskip (t := 19) rfl rfl (no_bool (by rw [h75]; decide)) rfl rfl <| O.gskip (t := 19) rfl rfl (no_bool (by rw [h75]; decide)) rfl rfl <| O.gskip (t := 19) rfl rfl (no_bool (by rw [h75]; decide)) rfl rfl <| O.p (Pu.pickT rfl h75 rfl) rfl <| O.nil <| J.condT rfl rfl <| J.seq <| J.region <| O.a rfl rfl <| O.a rfl rfl ?_
   refine O.nil ?_
   exact J.ret (Fin.ret (rs := [.tmp 2, .tmp 3]) rfl [_, _] ⟨rfl, rfl, trivial⟩ [] (by decide) [] rfl ⟨(by first | (rw [Dc.parse_early (Dc.sg_none ‹_›) (by omega)]; rfl) | (rw [Dc.parse_early (Dc.sg_one ‹_› ‹_›) (by omega)]; rfl) | (rw [Dc.parse_early (Dc.sg_zero ‹_› ‹_›) (by omega)]; rfl) | (rw [Dc.parse_byte hsg hfi ‹_› (by unfold Dc.isD; omega)]; rfl) | (have hi_ : i = s.length := (by omega); subst hi_; have hf_ : fr = 0 := (by omega); subst hf_; subst hacc; rw [Dc.parse_last0 hsg ‹_›]; rfl) | (have hi_ : i = s.length := (by omega); subst hi_; have hf_ : fr = 1 := (by have := Dc.sg_split hsg; omega); subst hf_; subst hacc; rw [Dc.parse_last1 hsg ‹_›]; rfl)), rfl⟩)
  ·
   have p77 := of_decide_eq_false h75
   refine O.gq (t := 19) rfl rfl h75 rfl (Pu.qt (Pu.move rfl)) rfl <| O.gq (t := 19) rfl rfl h75 rfl (Pu.qt (Pu.sLen runUnderlying9 rfl)) rfl <| O.gq (t := 19) rfl rfl h75 rfl (Pu.qt (Pu.move rfl)) rfl <| O.gq (t := 19) rfl rfl h75 rfl (Pu.qt (Pu.add' rfl rfl (by first | omega | (simp only [List.length_append, List.length_cons, List.length_nil, List.length_set]; omega)))) rfl <| O.gq (t := 19) rfl rfl h75 rfl (Pu.qt (Pu.gtr rfl rfl)) rfl <| O.p (Pu.pickF rfl h75 rfl) rfl <| O.nil ?_
   refine J.cond rfl (fun h78 => ?_) (fun h78 => ?_)
   ·
    have p79 := of_decide_eq_true h78
    refine J.seq <| J.region <| O.a rfl rfl <| O.a rfl rfl <| O.nil ?_
    exact J.ret (Fin.ret (rs := [.tmp 2, .tmp 3]) rfl [_, _] ⟨rfl, rfl, trivial⟩ [] (by decide) [] rfl ⟨(by first | (rw [Dc.parse_early (Dc.sg_none ‹_›) (by omega)]; rfl) | (rw [Dc.parse_early (Dc.sg_one ‹_› ‹_›) (by omega)]; rfl) | (rw [Dc.parse_early (Dc.sg_zero ‹_› ‹_›) (by omega)]; rfl) | (rw [Dc.parse_byte hsg hfi ‹_› (by unfold Dc.isD; omega)]; rfl) | (have hi_ : i = s.length := (by omega); subst hi_; have hf_ : fr = 0 := (by omega); subst hf_; subst hacc; rw [Dc.parse_last0 hsg ‹_›]; rfl) | (have hi_ : i = s.length := (by omega); subst hi_; have hf_ : fr = 1 := (by have := Dc.sg_split hsg; omega); subst hf_; subst hacc; rw [Dc.parse_last1 hsg ‹_›]; rfl)), rfl⟩)
   ·
    have p80 := of_decide_eq_false h78
    refine J.skip <| J.seq <| J.region <| O.a rfl rfl <| O.nil <| J.seq <| J.seq <| J.region <| O.m rfl rfl <| O.a rfl rfl <| O.nil <| J.block ?_
    refine J.loop (X := Nat × Nat × Int) (fun ξ => ξ.1 ≤ ξ.2.1 ∧ ξ.2.1 ≤ s.length ∧ ξ.2.2 = Dc.accN s ξ.1 ξ.2.1 ∧ Dc.digs s ξ.1 ξ.2.1 ∧ Dc.Sg s ξ.1) (fun ξ => [(0, str s), (4, .int .i64 (ξ.1 : Int)), (5, .int .i64 ξ.2.2), (6, .int .i64 (ξ.2.1 : Int))]) (fun ξ => []) (fun ξ => s.length - ξ.2.1) ⟨0, 0, 0⟩ (show 0 ≤ 0 ∧ 0 ≤ s.length ∧ 0 = Dc.accN s 0 0 ∧ Dc.digs s 0 0 ∧ Dc.Sg s 0 from ⟨Nat.le_refl _, (by omega), Dc.accN_start.symm, fun j c h1 h2 => by omega, (by first | exact Dc.sg_none ‹_› | exact Dc.sg_one ‹_› ‹_› | exact Dc.sg_zero ‹_› ‹_›)⟩) ⟨rfl, (congrArg (fun z => some (Value.int .i64 z)) (by first | rfl | omega : (0 : Int) = (0 : Int))), rfl, (congrArg (fun z => some (Value.int .i64 z)) (by first | rfl | omega : (0 : Int) = (0 : Int))), trivial⟩ [] (by decide) rfl ?_
    rintro ⟨fr, i, n⟩ hq81
    obtain ⟨hfi, hi, hacc, hdg, hsg⟩ : fr ≤ i ∧ i ≤ s.length ∧ n = Dc.accN s fr i ∧ Dc.digs s fr i ∧ Dc.Sg s fr := hq81
    show J _ _ [(0, str s), (4, .int .i64 (fr : Int)), (5, .int .i64 n), (6, .int .i64 (i : Int))] []
    refine J.seq <| J.seq <| J.region <| O.m rfl rfl <| O.m rfl rfl <| O.p (Pu.sLen runUnderlying9 rfl) rfl <| O.p (Pu.lss rfl rfl) rfl <| O.nil ?_
    refine J.cond rfl (fun h82 => ?_) (fun h82 => ?_)
    ·
     have p83 := of_decide_eq_true h82
     refine J.skip <| J.seq <| J.block <| J.seq <| J.seq <| J.region <| O.m rfl rfl <| O.m rfl rfl ?_
     obtain ⟨b84, hb85⟩ : ∃ x_, s[((i : Int) : Int).toNat]? = some x_ := ⟨_, List.getElem?_eq_getElem (by first | omega | (simp only [List.length_append, List.length_cons, List.length_nil, List.length_set]; omega))⟩
     refine O.p (Pu.sIdx runUnderlying9 rfl rfl (by first | omega | (simp only [List.length_append, List.length_cons, List.length_nil, List.length_set]; omega)) hb85) rfl <| O.p (Pu.lss rfl rfl) rfl <| O.m rfl rfl ?_
     refine by_bool (decide ((b84.toNat : Int) < 48)) (fun h86 => ?_) (fun h86 => ?_)
     ·
      have p87 := of_decide_eq_true h86
      refine O.gskip (t := 37) rfl rfl (no_bool (by rw [h86]; decide)) rfl rfl <| O.gskip (t := 37) rfl rfl (no_bool (by rw [h86]; decide)) rfl rfl <| O.gskip (t := 37) rfl rfl (no_bool (by rw [h86]; decide)) rfl rfl <| O.gskip (t := 37) rfl rfl (no_bool (by rw [h86]; decide)) rfl rfl <| O.p (Pu.pickT rfl h86 rfl) rfl <| O.nil <| J.condT rfl rfl <| J.seq <| J.region <| O.a rfl rfl <| O.a rfl rfl <| O.nil ?_
      exact J.ret (Fin.ret (rs := [.tmp 2, .tmp 3]) rfl [_, _] ⟨rfl, rfl, trivial⟩ [] (by decide) [] rfl ⟨(by first | (rw [Dc.parse_early (Dc.sg_none ‹_›) (by omega)]; rfl) | (rw [Dc.parse_early (Dc.sg_one ‹_› ‹_›) (by omega)]; rfl) | (rw [Dc.parse_early (Dc.sg_zero ‹_› ‹_›) (by omega)]; rfl) | (rw [Dc.parse_byte hsg hfi ‹_› (by unfold Dc.isD; omega)]; rfl) | (have hi_ : i = s.length := (by omega); subst hi_; have hf_ : fr = 0 := (by omega); subst hf_; subst hacc; rw [Dc.parse_last0 hsg ‹_›]; rfl) | (have hi_ : i = s.length := (by omega); subst hi_; have hf_ : fr = 1 := (by have := Dc.sg_split hsg; omega); subst hf_; subst hacc; rw [Dc.parse_last1 hsg ‹_›]; rfl)), rfl⟩)
     ·
      have p88 := of_decide_eq_false h86
      refine O.gq (t := 37) rfl rfl h86 rfl (Pu.qt (Pu.move rfl)) rfl <| O.gq (t := 37) rfl rfl h86 rfl (Pu.qt (Pu.move rfl)) rfl <| O.gq (t := 37) rfl rfl h86 rfl (Pu.qt (Pu.sIdx runUnderlying9 rfl rfl (by first | omega | (simp only [List.length_append, List.length_cons, List.length_nil, List.length_set]; omega)) hb85)) rfl <| O.gq (t := 37) rfl rfl h86 rfl (Pu.qt (Pu.gtr rfl rfl)) rfl <| O.p (Pu.pickF rfl h86 rfl) rfl <| O.nil ?_
      refine J.cond rfl (fun h91 => ?_) (fun h91 => ?_)
      ·
       have p92 := of_decide_eq_true h91
       refine J.seq <| J.region <| O.a rfl rfl <| O.a rfl rfl <| O.nil ?_
       exact J.ret (Fin.ret (rs := [.tmp 2, .tmp 3]) rfl [_, _] ⟨rfl, rfl, trivial⟩ [] (by decide) [] rfl ⟨(by first | (rw [Dc.parse_early (Dc.sg_none ‹_›) (by omega)]; rfl) | (rw [Dc.parse_early (Dc.sg_one ‹_› ‹_›) (by omega)]; rfl) | (rw [Dc.parse_early (Dc.sg_zero ‹_› ‹_›) (by omega)]; rfl) | (rw [Dc.parse_byte hsg hfi ‹_› (by unfold Dc.isD; omega)]; rfl) | (have hi_ : i = s.length := (by omega); subst hi_; have hf_ : fr = 0 := (by omega); subst hf_; subst hacc; rw [Dc.parse_last0 hsg ‹_›]; rfl) | (have hi_ : i = s.length := (by omega); subst hi_; have hf_ : fr = 1 := (by have := Dc.sg_split hsg; omega); subst hf_; subst hacc; rw [Dc.parse_last1 hsg ‹_›]; rfl)), rfl⟩)
      ·
       have p93 := of_decide_eq_false h91
       refine J.skip <| J.region <| O.m rfl rfl <| O.p (Pu.mul rfl rfl) rfl <| O.m rfl rfl <| O.m rfl rfl <| O.p (Pu.sIdx runUnderlying9 rfl rfl (by first | omega | (simp only [List.length_append, List.length_cons, List.length_nil, List.length_set]; omega)) hb85) rfl <| O.p (Pu.to (Pu.sub rfl rfl) (congrArg (Value.int .u8) (Dc.u8_id (by omega)))) rfl <| O.p (Pu.to (Pu.conv runUnderlying5 runUnderlying3 rfl) (congrArg (Value.int .i64) (in_i64 (by omega)))) rfl <| O.p (Pu.sub rfl rfl) rfl <| O.a rfl rfl <| O.nil ?_
       refine J.blk <| J.region <| O.m rfl rfl <| O.p (Pu.add' rfl rfl (by first | omega | (simp only [List.length_append, List.length_cons, List.length_nil, List.length_set]; omega))) rfl <| O.a rfl rfl <| O.nil ?_
       exact J.lp ⟨fr, i + 1, IntKind.i64.wrap ((IntKind.i64.wrap (10 * n)) - ((b84.toNat : Int) - 48))⟩ (show fr ≤ (i + 1) ∧ (i + 1) ≤ s.length ∧ (IntKind.i64.wrap ((IntKind.i64.wrap (10 * n)) - ((b84.toNat : Int) - 48))) = Dc.accN s fr (i + 1) ∧ Dc.digs s fr (i + 1) ∧ Dc.Sg s fr from ⟨by omega, by omega, (by rw [Dc.accN_next hfi ‹_›, ← hacc]; rfl), Dc.digs_next hdg ‹_› (by unfold Dc.isD; omega), hsg⟩) (show s.length - (i + 1) < s.length - i from (by first | omega | (simp only [List.length_append, List.length_cons, List.length_nil, List.length_set]; omega))) ⟨rfl, rfl, rfl, (congrArg (fun z => some (Value.int .i64 z)) (by first | rfl | omega : ((i : Int) + 1 : Int) = ((i + 1) : Int))), trivial⟩ [] (by decide) rfl
    ·
     have p96 := of_decide_eq_false h82
     refine J.exit _ rfl <| J.seq <| J.seq <| J.region <| O.m rfl rfl <| O.p (Pu.eql rfl rfl) rfl <| O.nil ?_
     refine J.cond rfl (fun h97 => ?_) (fun h97 => ?_)
     ·
      have p98 := of_decide_eq_true h97
      refine J.region <| O.m rfl rfl <| O.p (Pu.neg rfl) rfl <| O.a rfl rfl <| O.nil <| J.seq <| J.seq <| J.region <| O.m rfl rfl <| O.l (Lo.call [.int .i64 (IntKind.i64.wrap (0 - n))] (by exact call76) rfl (r05_Text (IntKind.i64.wrap (0 - n)) (by first | exact Dc.i64_wrap _ | exact hacc ▸ Dc.accN_range)) [] [] (by decide) rfl [] rfl RoOk.nil) rfl ?_
      rintro _ _ ⟨_, ⟨rfl, rfl⟩, rfl⟩
      refine O.m rfl rfl <| O.p (Pu.sNeq rfl rfl) rfl <| O.nil ?_
      refine J.cond rfl (fun h100 => ?_) (fun h100 => ?_)
      ·
       have h101 : ((Lib.itoa (IntKind.i64.wrap (0 - n))) == s) = false := not_flip h100
       refine J.seq <| J.region <| O.a rfl rfl <| O.a rfl rfl <| O.nil ?_
       exact J.ret (Fin.ret (rs := [.tmp 2, .tmp 3]) rfl [_, _] ⟨rfl, rfl, trivial⟩ [] (by decide) [] rfl ⟨(by first | (rw [Dc.parse_early (Dc.sg_none ‹_›) (by omega)]; rfl) | (rw [Dc.parse_early (Dc.sg_one ‹_› ‹_›) (by omega)]; rfl) | (rw [Dc.parse_early (Dc.sg_zero ‹_› ‹_›) (by omega)]; rfl) | (rw [Dc.parse_byte hsg hfi ‹_› (by unfold Dc.isD; omega)]; rfl) | (have hi_ : i = s.length := (by omega); subst hi_; have hf_ : fr = 0 := (by omega); subst hf_; subst hacc; rw [Dc.parse_last0 hsg ‹_›]; rfl) | (have hi_ : i = s.length := (by omega); subst hi_; have hf_ : fr = 1 := (by have := Dc.sg_split hsg; omega); subst hf_; subst hacc; rw [Dc.parse_last1 hsg ‹_›]; rfl)), rfl⟩)
      ·
       have h102 : ((Lib.itoa (IntKind.i64.wrap (0 - n))) == s) = true := not_flip h100
       refine J.skip <| J.seq <| J.region <| O.m rfl rfl <| O.a rfl rfl <| O.a rfl rfl <| O.nil ?_
       exact J.ret (Fin.ret (rs := [.tmp 2, .tmp 3]) rfl [_, _] ⟨rfl, rfl, trivial⟩ [] (by decide) [] rfl ⟨(by rw [Dc.parse_at (n := IntKind.i64.wrap (0 - n)) (by first | exact Dc.i64_wrap _ | exact hacc ▸ Dc.accN_range) ‹_›]; rfl), rfl⟩)
     ·
      have p103 := of_decide_eq_false h97
      refine J.skip <| J.seq <| J.seq <| J.region <| O.m rfl rfl <| O.l (Lo.call [.int .i64 n] (by exact call76) rfl (r05_Text n (by first | exact Dc.i64_wrap _ | exact hacc ▸ Dc.accN_range)) [] [] (by decide) rfl [] rfl RoOk.nil) rfl ?_
      rintro _ _ ⟨_, ⟨rfl, rfl⟩, rfl⟩
      refine O.m rfl rfl <| O.p (Pu.sNeq rfl rfl) rfl <| O.nil ?_
      refine J.cond rfl (fun h105 => ?_) (fun h105 => ?_)
      ·
       have h106 : ((Lib.itoa n) == s) = false := not_flip h105
       refine J.seq <| J.region <| O.a rfl rfl <| O.a rfl rfl <| O.nil ?_
       exact J.ret (Fin.ret (rs := [.tmp 2, .tmp 3]) rfl [_, _] ⟨rfl, rfl, trivial⟩ [] (by decide) [] rfl ⟨(by first | (rw [Dc.parse_early (Dc.sg_none ‹_›) (by omega)]; rfl) | (rw [Dc.parse_early (Dc.sg_one ‹_› ‹_›) (by omega)]; rfl) | (rw [Dc.parse_early (Dc.sg_zero ‹_› ‹_›) (by omega)]; rfl) | (rw [Dc.parse_byte hsg hfi ‹_› (by unfold Dc.isD; omega)]; rfl) | (have hi_ : i = s.length := (by omega); subst hi_; have hf_ : fr = 0 := (by omega); subst hf_; subst hacc; rw [Dc.parse_last0 hsg ‹_›]; rfl) | (have hi_ : i = s.length := (by omega); subst hi_; have hf_ : fr = 1 := (by have := Dc.sg_split hsg; omega); subst hf_; subst hacc; rw [Dc.parse_last1 hsg ‹_›]; rfl)), rfl⟩)
      ·
       have h107 : ((Lib.itoa n) == s) = true := not_flip h105
       refine J.skip <| J.seq <| J.region <| O.m rfl rfl <| O.a rfl rfl <| O.a rfl rfl <| O.nil ?_
       exact J.ret (Fin.ret (rs := [.tmp 2, .tmp 3]) rfl [_, _] ⟨rfl, rfl, trivial⟩ [] (by decide) [] rfl ⟨(by rw [Dc.parse_at (n := n) (by first | exact Dc.i64_wrap _ | exact hacc ▸ Dc.accN_range) ‹_›]; rfl), rfl⟩)

end Go.Proofs.YtnhfgnnpbipcnaaGreatDoor
