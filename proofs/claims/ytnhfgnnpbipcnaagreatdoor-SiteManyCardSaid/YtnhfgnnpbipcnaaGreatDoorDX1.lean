/-
  Walks, printed by a program of mine (lk.py): each function meets its contract.
-/
import Derived.KernelRfl
import Derived.Test.YtnhfgnnpbipcnaaGreatDoorNumsT
import Derived.Test.YtnhfgnnpbipcnaaGreatDoorDecA
import Derived.Test.YtnhfgnnpbipcnaaGreatDoorShelf
import Derived.Test.YtnhfgnnpbipcnaaGreatDoorWordsA
namespace Go.Proofs.YtnhfgnnpbipcnaaGreatDoor
open Go Go.LK Go.Proofs.Tryz
set_option linter.unusedSimpArgs false

theorem gTab : Tryz.prog.globalNamed "internal/strconv.uint64pow10" = some 3 := by kernel_rfl
def libW : Sp := lib 2 3 4 5
theorem s_Itoa (n : Int) (h0 : -9223372036854775808 ≤ n) (h1 : n ≤ 9223372036854775807) : Tri prog 103 #[.int .i64 n] [libW] [] (fun v L' => v = str (Lib.itoa n) ∧ L' = []) :=
  Tri.lib fun w hro => (strconv_Itoa n h0 h1 w (lib_tab gTab (hro libW (by simp)))).mono fun e w' ⟨he, k, os, hw⟩ => ⟨he, hw ▸ Frame.growN⟩
theorem s_Cut (s sep : List UInt8) (hs : s.length < 4294967281) : Tri prog 111 #[str s, str sep] [libW] [] (fun v L' => v = .tuple #[str (Lib.cut s sep).1, str (Lib.cut s sep).2.1, .bool (Lib.cut s sep).2.2] ∧ L' = []) :=
  Tri.lib fun w hro => by
    obtain ⟨⟨m, hm⟩, _⟩ := hro libW (by simp)
    exact (strings_Cut ⟨s.toArray⟩ ⟨sep.toArray⟩ m w (by rw [size_mk]; exact hs) hm).mono fun e w' ⟨he, k, hw⟩ => ⟨he, hw ▸ Frame.drewN⟩
theorem s_ParseInt (s : List UInt8) (hs : s.length ≤ 281474976710656) : Tri prog 123 #[str s, .int .i64 10, .int .i64 64] [libW] [] (fun v L' => (∃ n er, -9223372036854775808 ≤ n ∧ n ≤ 9223372036854775807 ∧ (Dc.okI s = true → Lib.parseIntB 64 s = .ok n) ∧ (er = .nilIface ∨ ∃ t p, er = .iface t p) ∧ nilI er = Dc.okI s ∧ v = .tuple #[.int .i64 n, er]) ∧ L' = []) :=
  Tri.lib' fun w hro => by
    obtain ⟨_, _, ⟨e1, h1, h1'⟩, ⟨e2, h2, h2'⟩⟩ := hro libW (by simp)
    have hsz : (ByteArray.mk s.toArray).size ≤ 281474976710656 := by rw [size_mk]; exact hs
    cases h : Lib.parseIntB 64 s
    · rename_i n
      have hb := Lib.parseIntB_bounds h
      refine (strconv_ParseInt_10_at64_ok ⟨s.toArray⟩ (by omega) n h w).mono fun e w' ⟨he, hw⟩ => ⟨_, he, ⟨n, .nilIface, by omega, by omega, fun _ => rfl, .inl rfl, by simp [nilI, Dc.okI, h], rfl⟩, ?_⟩
      rcases hw with rfl | ⟨t, rfl⟩
      · exact Frame.refl _ _
      · exact Frame.bytesWorld
    · exact (Any.strconv_ParseInt_10_at64_syntax laysC174 ⟨s.toArray⟩ hsz h e1 w h1 h1').mono fun e w' ⟨N, he, _, _, hb⟩ => ⟨_, he, ⟨0, _, by omega, by omega, fun hc => by simp [Dc.okI, h] at hc, .inr ⟨_, _, rfl⟩, by simp [nilI, Dc.okI, h], rfl⟩, Frame.of_below hb⟩
    · have hsat : -9223372036854775808 ≤ Lib.intSat 64 s ∧ Lib.intSat 64 s ≤ 9223372036854775807 := by unfold Lib.intSat; split <;> simp
      exact (strconv_ParseInt_10_at64_range ⟨s.toArray⟩ hsz h e2 w h2 h2').mono fun e w' ⟨N, he, _, _, hb⟩ => ⟨_, he, ⟨_, _, hsat.1, hsat.2, fun hc => by simp [Dc.okI, h] at hc, .inr ⟨_, _, rfl⟩, by simp [nilI, Dc.okI, h], rfl⟩, Frame.of_below hb⟩

set_option maxRecDepth 100000 in
theorem dec_Text (n : Int) (h0 : -9223372036854775808 ≤ n) (h1 : n ≤ 9223372036854775807) : Tri prog 69 #[.int .i64 n] [libW] [] (fun v L' => v = str (Lib.itoa n) ∧ L' = []) := by
 refine Tri.enter (args := [.int .i64 n]) (body := _) 5 func69 rfl ntmps69 rfl ?_
 intro w0
 refine J.seq <| J.region <| O.a rfl rfl <| O.nil <| J.seq <| J.region <| O.m rfl rfl <| O.l (Lo.call [.int .i64 n] (by exact call103) rfl (s_Itoa n (by first | omega | (simp only [List.length_append, List.length_cons, List.length_nil, List.length_set]; omega)) (by first | omega | (simp only [List.length_append, List.length_cons, List.length_nil, List.length_set]; omega))) [] [] (by decide) rfl [] rfl (RoOk.ro 0 rfl [] rfl RoOk.nil)) rfl ?_
 rintro _ _ ⟨_, ⟨rfl, rfl⟩, rfl⟩
 refine O.a rfl rfl <| O.nil ?_
 exact J.ret (Fin.ret (rs := [.tmp 2]) rfl [_] ⟨rfl, trivial⟩ [] (by decide) [] rfl ⟨rfl, rfl⟩)

set_option maxRecDepth 100000 in
theorem dec_Parse (s : List UInt8) (hs : s.length ≤ 281474976710656) : Tri prog 110 #[str s] [libW] [] (fun v L' => v = .tuple #[.int .i64 (Dc.parse s).1, .int .i64 (Dc.parse s).2] ∧ L' = []) := by
 refine Tri.enter (args := [str s]) (body := _) 20 func110 rfl ntmps110 rfl ?_
 intro w0
 refine J.seq <| J.region <| O.a rfl rfl <| O.a rfl rfl <| O.nil <| J.seq <| J.region <| O.m rfl rfl <| O.l (Lo.call [str s, .int .i64 10, .int .i64 64] (by exact call123) rfl (s_ParseInt s (by first | omega | (simp only [List.length_append, List.length_cons, List.length_nil, List.length_set]; omega))) [] [] (by decide) rfl [] rfl (RoOk.ro 0 rfl [] rfl RoOk.nil)) rfl ?_
 rintro _ _ ⟨_, ⟨⟨n1, er2, hn3, hn4, hok5, he6, hb7, rfl⟩, rfl⟩, rfl⟩
 refine O.m rfl rfl <| O.p (Pu.extract rfl rfl) rfl <| O.p (Pu.extract rfl rfl) rfl <| O.a rfl rfl <| O.a rfl rfl <| O.nil <| J.seq <| J.seq <| J.region <| O.m rfl rfl <| O.p (Pu.neNil underlying107 rfl he6 hb7) rfl <| O.m rfl rfl ?_
 refine by_bool (!(Dc.okI s)) (fun h9 => ?_) (fun h9 => ?_)
 ·
  have h10 : (Dc.okI s) = false := not_flip h9
  refine O.gskip (t := 13) rfl rfl (no_bool (by rw [h9]; decide)) rfl rfl <| O.gskip (t := 13) rfl rfl (no_bool (by rw [h9]; decide)) rfl rfl <| O.gskip (t := 13) rfl rfl (no_bool (by rw [h9]; decide)) rfl rfl <| O.gskip (t := 13) rfl rfl (no_bool (by rw [h9]; decide)) rfl rfl <| O.p (Pu.pickT rfl h9 rfl) rfl <| O.nil <| J.condT rfl rfl <| J.seq <| J.region <| O.a rfl rfl <| O.a rfl rfl <| O.nil ?_
  exact J.ret (Fin.ret (rs := [.tmp 2, .tmp 3]) rfl [_, _] ⟨rfl, rfl, trivial⟩ [] (by decide) [] rfl ⟨(by first | (rw [Dc.parse_no ‹_›]; rfl) | (rw [Dc.parse_bad (hok5 ‹_›) ‹_›]; rfl)), rfl⟩)
 ·
  have h11 : (Dc.okI s) = true := not_flip h9
  refine O.gq (t := 13) rfl rfl h9 rfl (Pu.qt (Pu.move rfl)) rfl <| O.gl (t := 13) rfl rfl h9 rfl (Lo.call [.int .i64 n1] (by exact call69) rfl (dec_Text n1 (by first | omega | (simp only [List.length_append, List.length_cons, List.length_nil, List.length_set]; omega)) (by first | omega | (simp only [List.length_append, List.length_cons, List.length_nil, List.length_set]; omega))) [] [] (by decide) rfl [] rfl (RoOk.ro 0 rfl [] rfl RoOk.nil)) rfl ?_
  rintro _ _ ⟨_, ⟨rfl, rfl⟩, rfl⟩
  refine O.gq (t := 13) rfl rfl h9 rfl (Pu.qt (Pu.move rfl)) rfl <| O.gq (t := 13) rfl rfl h9 rfl (Pu.qt (Pu.sNeq rfl rfl)) rfl <| O.p (Pu.pickF rfl h9 rfl) rfl <| O.nil ?_
  refine J.cond rfl (fun h13 => ?_) (fun h13 => ?_)
  ·
   have h14 : ((Lib.itoa n1) == s) = false := not_flip h13
   refine J.seq <| J.region <| O.a rfl rfl <| O.a rfl rfl <| O.nil ?_
   exact J.ret (Fin.ret (rs := [.tmp 2, .tmp 3]) rfl [_, _] ⟨rfl, rfl, trivial⟩ [] (by decide) [] rfl ⟨(by first | (rw [Dc.parse_no ‹_›]; rfl) | (rw [Dc.parse_bad (hok5 ‹_›) ‹_›]; rfl)), rfl⟩)
  ·
   have h15 : ((Lib.itoa n1) == s) = true := not_flip h13
   refine J.skip <| J.seq <| J.region <| O.m rfl rfl <| O.a rfl rfl <| O.a rfl rfl <| O.nil ?_
   exact J.ret (Fin.ret (rs := [.tmp 2, .tmp 3]) rfl [_, _] ⟨rfl, rfl, trivial⟩ [] (by decide) [] rfl ⟨(by rw [Dc.parse_ok (hok5 ‹_›) ‹_›]; rfl), rfl⟩)

end Go.Proofs.YtnhfgnnpbipcnaaGreatDoor
