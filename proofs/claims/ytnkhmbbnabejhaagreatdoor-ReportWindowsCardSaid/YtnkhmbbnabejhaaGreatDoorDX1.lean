/-
  Walks, printed by a program of mine (lk.py): each function meets its contract.
-/
import Derived.KernelRfl
import Derived.Test.YtnkhmbbnabejhaaGreatDoorNumsT
import Derived.Test.YtnkhmbbnabejhaaGreatDoorDecA
import Derived.Test.YtnkhmbbnabejhaaGreatDoorShelf
import Derived.Test.YtnkhmbbnabejhaaGreatDoorWordsA
namespace Go.Proofs.YtnkhmbbnabejhaaGreatDoor
open Go Go.LK Go.Proofs.Tryz
set_option linter.unusedSimpArgs false

theorem gTab : Tryz.prog.globalNamed "internal/strconv.uint64pow10" = some 3 := by kernel_rfl
def libW : Sp := lib 2 3 0 1
theorem s_Itoa (n : Int) (h0 : -9223372036854775808 ≤ n) (h1 : n ≤ 9223372036854775807) : Tri prog 71 #[.int .i64 n] [libW] [] (fun v L' => v = str (Lib.itoa n) ∧ L' = []) :=
  Tri.lib fun w hro => (strconv_Itoa n h0 h1 w (lib_tab gTab (hro libW (by simp)))).mono fun e w' ⟨he, k, os, hw⟩ => ⟨he, hw ▸ Frame.growN⟩
theorem s_ParseInt (s : List UInt8) (hs : s.length ≤ 281474976710656) : Tri prog 76 #[str s, .int .i64 10, .int .i64 64] [libW] [] (fun v L' => (∃ n er, -9223372036854775808 ≤ n ∧ n ≤ 9223372036854775807 ∧ (Dc.okI s = true → Lib.parseIntB 64 s = .ok n) ∧ (er = .nilIface ∨ ∃ t p, er = .iface t p) ∧ nilI er = Dc.okI s ∧ v = .tuple #[.int .i64 n, er]) ∧ L' = []) :=
  Tri.lib' fun w hro => by
    obtain ⟨_, _, ⟨e1, h1, h1'⟩, ⟨e2, h2, h2'⟩⟩ := hro libW (by simp)
    have hsz : (ByteArray.mk s.toArray).size ≤ 281474976710656 := by rw [size_mk]; exact hs
    cases h : Lib.parseIntB 64 s
    · rename_i n
      have hb := Lib.parseIntB_bounds h
      refine (strconv_ParseInt_10_at64_ok ⟨s.toArray⟩ (by omega) n h w).mono fun e w' ⟨he, hw⟩ => ⟨_, he, ⟨n, .nilIface, by omega, by omega, fun _ => rfl, .inl rfl, by simp [nilI, Dc.okI, h], rfl⟩, ?_⟩
      rcases hw with rfl | ⟨t, rfl⟩
      · exact Frame.refl _ _
      · exact Frame.bytesWorld
    · exact (Any.strconv_ParseInt_10_at64_syntax laysC174 ⟨s.toArray⟩ hsz h e1 w h1 h1').mono fun e w' ⟨N, he, _, _, hb⟩ => ⟨_, he, ⟨0, _, by omega, by omega, fun hc => by simp [Dc.okI, h] at hc, .inr ⟨_, _, rfl⟩, by simp [nilI, Dc.okI, h], rfl⟩, Frame.of_below hb⟩
    · have hsat : -9223372036854775808 ≤ Lib.intSat 64 s ∧ Lib.intSat 64 s ≤ 9223372036854775807 := by unfold Lib.intSat; split <;> simp
      exact (strconv_ParseInt_10_at64_range ⟨s.toArray⟩ hsz h e2 w h2 h2').mono fun e w' ⟨N, he, _, _, hb⟩ => ⟨_, he, ⟨_, _, hsat.1, hsat.2, fun hc => by simp [Dc.okI, h] at hc, .inr ⟨_, _, rfl⟩, by simp [nilI, Dc.okI, h], rfl⟩, Frame.of_below hb⟩

set_option maxRecDepth 100000 in
theorem dec_Text (n : Int) (h0 : -9223372036854775808 ≤ n) (h1 : n ≤ 9223372036854775807) : Tri prog 47 #[.int .i64 n] [libW] [] (fun v L' => v = str (Lib.itoa n) ∧ L' = []) := by
 refine Tri.enter (args := [.int .i64 n]) (body := _) 5 func47 rfl ntmps47 rfl ?_
 intro w0
 refine J.seq <| J.region <| O.a rfl rfl <| O.nil <| J.seq <| J.region <| O.m rfl rfl <| O.l (Lo.call [.int .i64 n] (by exact call71) rfl (s_Itoa n (by first | omega | (simp only [List.length_append, List.length_cons, List.length_nil, List.length_set]; omega)) (by first | omega | (simp only [List.length_append, List.length_cons, List.length_nil, List.length_set]; omega))) [] [] (by decide) rfl [] rfl (RoOk.ro 0 rfl [] rfl RoOk.nil)) rfl ?_
 rintro _ _ ⟨_, ⟨rfl, rfl⟩, rfl⟩
 refine O.a rfl rfl <| O.nil ?_
 exact J.ret (Fin.ret (rs := [.tmp 2]) rfl [_] ⟨rfl, trivial⟩ [] (by decide) [] rfl ⟨rfl, rfl⟩)

set_option maxRecDepth 100000 in
theorem dec_Parse (s : List UInt8) (hs : s.length ≤ 281474976710656) : Tri prog 54 #[str s] [libW] [] (fun v L' => v = .tuple #[.int .i64 (Dc.parse s).1, .int .i64 (Dc.parse s).2] ∧ L' = []) := by
 refine Tri.enter (args := [str s]) (body := _) 20 func54 rfl ntmps54 rfl ?_
 intro w0
 refine J.seq <| J.region <| O.a rfl rfl <| O.a rfl rfl <| O.nil <| J.seq <| J.region <| O.m rfl rfl <| O.l (Lo.call [str s, .int .i64 10, .int .i64 64] (by exact call76) rfl (s_ParseInt s (by first | omega | (simp only [List.length_append, List.length_cons, List.length_nil, List.length_set]; omega))) [] [] (by decide) rfl [] rfl (RoOk.ro 0 rfl [] rfl RoOk.nil)) rfl ?_
 rintro _ _ ⟨_, ⟨⟨n1, er2, hn3, hn4, hok5, he6, hb7, rfl⟩, rfl⟩, rfl⟩
 refine O.m rfl rfl <| O.p (Pu.extract rfl rfl) rfl <| O.p (Pu.extract rfl rfl) rfl <| O.a rfl rfl <| O.a rfl rfl <| O.nil <| J.seq <| J.seq <| J.region <| O.m rfl rfl <| O.p (Pu.neNil underlying86 rfl he6 hb7) rfl <| O.m rfl rfl ?_
 refine by_bool (!(Dc.okI s)) (fun h9 => ?_) (fun h9 => ?_)
 ·
  have h10 : (Dc.okI s) = false := not_flip h9
  refine O.gskip (t := 13) rfl rfl (no_bool (by rw [h9]; decide)) rfl rfl <| O.gskip (t := 13) rfl rfl (no_bool (by rw [h9]; decide)) rfl rfl <| O.gskip (t := 13) rfl rfl (no_bool (by rw [h9]; decide)) rfl rfl <| O.gskip (t := 13) rfl rfl (no_bool (by rw [h9]; decide)) rfl rfl <| O.p (Pu.pickT rfl h9 rfl) rfl <| O.nil <| J.condT rfl rfl <| J.seq <| J.region <| O.a rfl rfl <| O.a rfl rfl <| O.nil ?_
  exact J.ret (Fin.ret (rs := [.tmp 2, .tmp 3]) rfl [_, _] ⟨rfl, rfl, trivial⟩ [] (by decide) [] rfl ⟨(by first | (rw [Dc.parse_no ‹_›]; rfl) | (rw [Dc.parse_bad (hok5 ‹_›) ‹_›]; rfl)), rfl⟩)
 ·
  have h11 : (Dc.okI s) = true := not_flip h9
  refine O.gq (t := 13) rfl rfl h9 rfl (Pu.qt (Pu.move rfl)) rfl <| O.gl (t := 13) rfl rfl h9 rfl (Lo.call [.int .i64 n1] (by exact call47) rfl (dec_Text n1 (by first | omega | (simp only [List.length_append, List.length_cons, List.length_nil, List.length_set]; omega)) (by first | omega | (simp only [List.length_append, List.length_cons, List.length_nil, List.length_set]; omega))) [] [] (by decide) rfl [] rfl (RoOk.ro 0 rfl [] rfl RoOk.nil)) rfl ?_
  rintro _ _ ⟨_, ⟨rfl, rfl⟩, rfl⟩
  refine O.gq (t := 13) rfl rfl h9 rfl (Pu.qt (Pu.move rfl)) rfl <| O.gq (t := 13) rfl rfl h9 rfl (Pu.qt (Pu.sNeq rfl rfl)) rfl <| O.p (Pu.pickF rfl h9 rfl) rfl <| O.nil ?_
  refine J.cond rfl (fun h13 => ?_) (fun h13 => ?_)
  ·
   have h14 : ((Lib.itoa n1) == s) = false := not_flip h13
   refine J.seq <| J.region <| O.a rfl rfl <| O.a rfl rfl <| O.nil ?_
   exact J.ret (Fin.ret (rs := [.tmp 2, .tmp 3]) rfl [_, _] ⟨rfl, rfl, trivial⟩ [] (by decide) [] rfl ⟨(by first | (rw [Dc.parse_no ‹_›]; rfl) | (rw [Dc.parse_bad (hok5 ‹_›) ‹_›]; rfl)), rfl⟩)
  ·
   have h15 : ((Lib.itoa n1) == s) = true := not_flip h13
   refine J.skip <| J.seq <| J.region <| O.m rfl rfl <| O.a rfl rfl <| O.a rfl rfl <| O.nil ?_
   exact J.ret (Fin.ret (rs := [.tmp 2, .tmp 3]) rfl [_, _] ⟨rfl, rfl, trivial⟩ [] (by decide) [] rfl ⟨(by rw [Dc.parse_ok (hok5 ‹_›) ‹_›]; rfl), rfl⟩)

set_option maxRecDepth 100000 in
theorem r05_Text (n : Int) (hn : Dc.I64 n) : Tri prog 51 #[.int .i64 n] [] [] (fun v L' => v = str (Lib.itoa n) ∧ L' = []) := by
 refine Tri.enter (args := [.int .i64 n]) (body := _) 33 func51 rfl ntmps51 rfl ?_
 intro w0
 refine J.seq <| J.region <| O.a rfl rfl <| O.nil <| J.seq <| J.seq <| J.region <| O.m rfl rfl <| O.p (Pu.eql rfl rfl) rfl <| O.nil ?_
 refine J.cond rfl (fun h1 => ?_) (fun h1 => ?_)
 ·
  have p2 := of_decide_eq_true h1
  refine J.seq <| J.region <| O.a rfl rfl <| O.nil ?_
  exact J.ret (Fin.ret (rs := [.tmp 2]) rfl [_] ⟨rfl, trivial⟩ [] (by decide) [] rfl ⟨(by have hn0 : n = 0 := (by omega); subst hn0; rw [Dc.itoa_zero]; rfl), rfl⟩)
 ·
  have p3 := of_decide_eq_false h1
  refine J.skip <| J.seq <| J.region <| O.m rfl rfl <| O.a rfl rfl <| O.a rfl rfl <| O.nil <| J.seq <| J.block <| J.loop (X := Int × List UInt8) (fun ξ => Dc.I64 ξ.1 ∧ Dc.dig ξ.1 ++ ξ.2 = Dc.dig n) (fun ξ => [(0, .int .i64 n), (2, str ([] : List UInt8)), (3, str ξ.2), (4, .int .i64 ξ.1)]) (fun ξ => []) (fun ξ => ξ.1.natAbs) ⟨n, ([] : List UInt8)⟩ (show Dc.I64 n ∧ Dc.dig n ++ ([] : List UInt8) = Dc.dig n from ⟨hn, by simp⟩) ⟨rfl, rfl, rfl, rfl, trivial⟩ [] (by decide) rfl ?_
  rintro ⟨k, t⟩ hq4
  obtain ⟨hk, hst⟩ : Dc.I64 k ∧ Dc.dig k ++ t = Dc.dig n := hq4
  show J _ _ [(0, .int .i64 n), (2, str ([] : List UInt8)), (3, str t), (4, .int .i64 k)] []
  refine J.seq <| J.seq <| J.region <| O.m rfl rfl <| O.p (Pu.neq rfl rfl) rfl <| O.nil ?_
  refine J.cond rfl (fun h5 => ?_) (fun h5 => ?_)
  ·
   have p6 := of_decide_eq_true h5
   refine J.skip <| J.block <| J.seq <| J.region <| O.m rfl rfl <| O.m rfl rfl <| O.p (Pu.to (Pu.quo rfl rfl (by first | omega | (have h_ := Dc.t_parts k; have h2_ : Dc.I64 k := hk; unfold Dc.I64 at h2_; omega))) (congrArg (Value.int .i64) (Dc.quo_wrap hk))) rfl <| O.p (Pu.mul' rfl rfl (by first | omega | (have h_ := Dc.t_parts k; have h2_ : Dc.I64 k := hk; unfold Dc.I64 at h2_; omega))) rfl <| O.p (Pu.to (Pu.sub' rfl rfl (by first | omega | (have h_ := Dc.t_parts k; have h2_ : Dc.I64 k := hk; unfold Dc.I64 at h2_; omega))) (congrArg (Value.int .i64) Dc.low)) rfl <| O.a rfl rfl <| O.nil <| J.seq ?_
   refine J.seq <| J.region <| O.m rfl rfl <| O.p (Pu.lss rfl rfl) rfl <| O.nil ?_
   refine J.cond rfl (fun h7 => ?_) (fun h7 => ?_)
   ·
    have p8 := of_decide_eq_true h7
    refine J.region <| O.m rfl rfl <| O.p (Pu.to (Pu.neg rfl) (congrArg (Value.int .i64) Dc.neg_wrap)) rfl <| O.a rfl rfl <| O.nil <| J.seq <| J.region <| O.m rfl rfl <| O.m rfl rfl <| O.p (Pu.add' rfl rfl (by first | omega | (have h_ := Dc.t_parts k; have h2_ : Dc.I64 k := hk; unfold Dc.I64 at h2_; omega))) rfl <| O.p (Pu.sCut runUnderlying9 rfl rfl rfl (by first | omega | (have h_ := Dc.t_parts k; have h2_ : Dc.I64 k := hk; unfold Dc.I64 at h2_; simp only [List.length_cons, List.length_nil]; omega) | (have h_ := Dc.t_parts k; have h2_ : Dc.I64 k := hk; unfold Dc.I64 at h2_; omega)) (by first | omega | (have h_ := Dc.t_parts k; have h2_ : Dc.I64 k := hk; unfold Dc.I64 at h2_; simp only [List.length_cons, List.length_nil]; omega) | (have h_ := Dc.t_parts k; have h2_ : Dc.I64 k := hk; unfold Dc.I64 at h2_; omega)) (by first | omega | (have h_ := Dc.t_parts k; have h2_ : Dc.I64 k := hk; unfold Dc.I64 at h2_; simp only [List.length_cons, List.length_nil]; omega) | (have h_ := Dc.t_parts k; have h2_ : Dc.I64 k := hk; unfold Dc.I64 at h2_; omega))) rfl <| O.m rfl rfl ?_
    refine O.p (Pu.sAdd rfl rfl (by have h_ := Dc.short hn hst; simp only [List.length_append, List.length_take, List.length_drop, List.length_cons, List.length_nil]; omega)) rfl <| O.a rfl rfl <| O.nil <| J.region <| O.m rfl rfl <| O.p (Pu.to (Pu.quo rfl rfl (by first | omega | (have h_ := Dc.t_parts k; have h2_ : Dc.I64 k := hk; unfold Dc.I64 at h2_; omega))) (congrArg (Value.int .i64) (Dc.quo_wrap hk))) rfl <| O.a rfl rfl <| O.nil <| J.blk ?_
    exact J.lp ⟨Int.tdiv k 10, ((([48, 49, 50, 51, 52, 53, 54, 55, 56, 57]).drop (-(Int.tmod k 10)).toNat).take (((-(Int.tmod k 10)) + 1).toNat - (-(Int.tmod k 10)).toNat)) ++ t⟩ (show Dc.I64 (Int.tdiv k 10) ∧ Dc.dig (Int.tdiv k 10) ++ (((([48, 49, 50, 51, 52, 53, 54, 55, 56, 57]).drop (-(Int.tmod k 10)).toNat).take (((-(Int.tmod k 10)) + 1).toNat - (-(Int.tmod k 10)).toNat)) ++ t) = Dc.dig n from ⟨Dc.quo_I64 hk, Dc.text_step (by omega) (by have h_ := Dc.t_parts k; omega) (by omega) hst⟩) (show (Int.tdiv k 10).natAbs < k.natAbs from (by have h_ := Dc.t_parts k; omega)) ⟨rfl, rfl, rfl, rfl, trivial⟩ [] (by decide) rfl
   ·
    have p9 := of_decide_eq_false h7
    refine J.skip <| J.seq <| J.region <| O.m rfl rfl <| O.m rfl rfl <| O.p (Pu.add' rfl rfl (by first | omega | (have h_ := Dc.t_parts k; have h2_ : Dc.I64 k := hk; unfold Dc.I64 at h2_; omega))) rfl <| O.p (Pu.sCut runUnderlying9 rfl rfl rfl (by first | omega | (have h_ := Dc.t_parts k; have h2_ : Dc.I64 k := hk; unfold Dc.I64 at h2_; simp only [List.length_cons, List.length_nil]; omega) | (have h_ := Dc.t_parts k; have h2_ : Dc.I64 k := hk; unfold Dc.I64 at h2_; omega)) (by first | omega | (have h_ := Dc.t_parts k; have h2_ : Dc.I64 k := hk; unfold Dc.I64 at h2_; simp only [List.length_cons, List.length_nil]; omega) | (have h_ := Dc.t_parts k; have h2_ : Dc.I64 k := hk; unfold Dc.I64 at h2_; omega)) (by first | omega | (have h_ := Dc.t_parts k; have h2_ : Dc.I64 k := hk; unfold Dc.I64 at h2_; simp only [List.length_cons, List.length_nil]; omega) | (have h_ := Dc.t_parts k; have h2_ : Dc.I64 k := hk; unfold Dc.I64 at h2_; omega))) rfl <| O.m rfl rfl <| O.p (Pu.sAdd rfl rfl (by have h_ := Dc.short hn hst; simp only [List.length_append, List.length_take, List.length_drop, List.length_cons, List.length_nil]; omega)) rfl <| O.a rfl rfl <| O.nil <| J.region ?_
    refine O.m rfl rfl <| O.p (Pu.to (Pu.quo rfl rfl (by first | omega | (have h_ := Dc.t_parts k; have h2_ : Dc.I64 k := hk; unfold Dc.I64 at h2_; omega))) (congrArg (Value.int .i64) (Dc.quo_wrap hk))) rfl <| O.a rfl rfl <| O.nil <| J.blk ?_
    exact J.lp ⟨Int.tdiv k 10, ((([48, 49, 50, 51, 52, 53, 54, 55, 56, 57]).drop (Int.tmod k 10).toNat).take (((Int.tmod k 10) + 1).toNat - (Int.tmod k 10).toNat)) ++ t⟩ (show Dc.I64 (Int.tdiv k 10) ∧ Dc.dig (Int.tdiv k 10) ++ (((([48, 49, 50, 51, 52, 53, 54, 55, 56, 57]).drop (Int.tmod k 10).toNat).take (((Int.tmod k 10) + 1).toNat - (Int.tmod k 10).toNat)) ++ t) = Dc.dig n from ⟨Dc.quo_I64 hk, Dc.text_step (by omega) (by have h_ := Dc.t_parts k; omega) (by omega) hst⟩) (show (Int.tdiv k 10).natAbs < k.natAbs from (by have h_ := Dc.t_parts k; omega)) ⟨rfl, rfl, rfl, rfl, trivial⟩ [] (by decide) rfl
  ·
   have p10 := of_decide_eq_false h5
   refine J.exit _ rfl <| J.seq <| J.seq <| J.region <| O.m rfl rfl <| O.p (Pu.lss rfl rfl) rfl <| O.nil ?_
   refine J.cond rfl (fun h11 => ?_) (fun h11 => ?_)
   ·
    have p12 := of_decide_eq_true h11
    refine J.region <| O.m rfl rfl <| O.p (Pu.sAdd rfl rfl (by have h_ := Dc.short hn hst; simp only [List.length_append, List.length_take, List.length_drop, List.length_cons, List.length_nil]; omega)) rfl <| O.a rfl rfl <| O.nil <| J.seq <| J.region <| O.m rfl rfl <| O.a rfl rfl <| O.nil ?_
    exact J.ret (Fin.ret (rs := [.tmp 2]) rfl [_] ⟨rfl, trivial⟩ [] (by decide) [] rfl ⟨(by have hk0 : k = 0 := (by omega); subst hk0; rw [Dc.text_neg (by omega) hst]; rfl), rfl⟩)
   ·
    have p13 := of_decide_eq_false h11
    refine J.skip <| J.seq <| J.region <| O.m rfl rfl <| O.a rfl rfl <| O.nil ?_
    exact J.ret (Fin.ret (rs := [.tmp 2]) rfl [_] ⟨rfl, trivial⟩ [] (by decide) [] rfl ⟨(by have hk0 : k = 0 := (by omega); subst hk0; rw [Dc.text_pos (by omega) (by omega) hst]; rfl), rfl⟩)

end Go.Proofs.YtnkhmbbnabejhaaGreatDoor
