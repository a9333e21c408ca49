/-
  Walks, printed by a program of mine (lk.py): each function meets its contract.
-/
import Derived.KernelRfl
import Derived.Test.YtnhfgnnpbipcnaaGreatDoorNumsT
import Derived.Test.YtnhfgnnpbipcnaaGreatDoorDecA
import Derived.Test.YtnhfgnnpbipcnaaGreatDoorShelf
import Derived.Test.YtnhfgnnpbipcnaaGreatDoorWordsA
import Derived.Test.YtnhfgnnpbipcnaaGreatDoorFo
namespace Go.Proofs.YtnhfgnnpbipcnaaGreatDoor
open Go Go.LK
set_option linter.unusedSimpArgs false

theorem gTab : Tryz.prog.globalNamed "internal/strconv.uint64pow10" = some 3 := by kernel_rfl
def libW : Sp := lib 2 3 4 5
theorem s_Itoa (n : Int) (h0 : -9223372036854775808 ≤ n) (h1 : n ≤ 9223372036854775807) : Tri Tryz.prog 103 #[.int .i64 n] [libW] [] (fun v L' => v = str (Lib.itoa n) ∧ L' = []) :=
  Tri.lib fun w hro => (Tryz.strconv_Itoa n h0 h1 w (lib_tab gTab (hro libW (by simp)))).mono fun e w' ⟨he, k, os, hw⟩ => ⟨he, hw ▸ Frame.growN⟩
theorem s_Cut (s sep : List UInt8) (hs : s.length < 4294967281) : Tri Tryz.prog 111 #[str s, str sep] [libW] [] (fun v L' => v = .tuple #[str (Lib.cut s sep).1, str (Lib.cut s sep).2.1, .bool (Lib.cut s sep).2.2] ∧ L' = []) :=
  Tri.lib fun w hro => by
    obtain ⟨⟨m, hm⟩, _⟩ := hro libW (by simp)
    exact (Tryz.strings_Cut ⟨s.toArray⟩ ⟨sep.toArray⟩ m w (by rw [size_mk]; exact hs) hm).mono fun e w' ⟨he, k, hw⟩ => ⟨he, hw ▸ Frame.drewN⟩
theorem s_ParseInt (s : List UInt8) (hs : s.length ≤ 281474976710656) : Tri Tryz.prog 123 #[str s, .int .i64 10, .int .i64 64] [libW] [] (fun v L' => (∃ n er, -9223372036854775808 ≤ n ∧ n ≤ 9223372036854775807 ∧ (Dc.okI s = true → Lib.parseIntB 64 s = .ok n) ∧ (er = .nilIface ∨ ∃ t p, er = .iface t p) ∧ nilI er = Dc.okI s ∧ v = .tuple #[.int .i64 n, er]) ∧ L' = []) :=
  Tri.lib' fun w hro => by
    obtain ⟨_, _, ⟨e1, h1, h1'⟩, ⟨e2, h2, h2'⟩⟩ := hro libW (by simp)
    have hsz : (ByteArray.mk s.toArray).size ≤ 281474976710656 := by rw [size_mk]; exact hs
    cases h : Lib.parseIntB 64 s
    · rename_i n
      have hb := Lib.parseIntB_bounds h
      refine (Tryz.strconv_ParseInt_10_at64_ok ⟨s.toArray⟩ (by omega) n h w).mono fun e w' ⟨he, hw⟩ => ⟨_, he, ⟨n, .nilIface, by omega, by omega, fun _ => rfl, .inl rfl, by simp [nilI, Dc.okI, h], rfl⟩, ?_⟩
      rcases hw with rfl | ⟨t, rfl⟩
      · exact Frame.refl _ _
      · exact Frame.bytesWorld
    · exact (Any.strconv_ParseInt_10_at64_syntax Tryz.laysC174 ⟨s.toArray⟩ hsz h e1 w h1 h1').mono fun e w' ⟨N, he, _, _, hb⟩ => ⟨_, he, ⟨0, _, by omega, by omega, fun hc => by simp [Dc.okI, h] at hc, .inr ⟨_, _, rfl⟩, by simp [nilI, Dc.okI, h], rfl⟩, Frame.of_below hb⟩
    · have hsat : -9223372036854775808 ≤ Lib.intSat 64 s ∧ Lib.intSat 64 s ≤ 9223372036854775807 := by unfold Lib.intSat; split <;> simp
      exact (Tryz.strconv_ParseInt_10_at64_range ⟨s.toArray⟩ hsz h e2 w h2 h2').mono fun e w' ⟨N, he, _, _, hb⟩ => ⟨_, he, ⟨_, _, hsat.1, hsat.2, fun hc => by simp [Dc.okI, h] at hc, .inr ⟨_, _, rfl⟩, by simp [nilI, Dc.okI, h], rfl⟩, Frame.of_below hb⟩

set_option maxRecDepth 100000 in
theorem dec_Text (n : Int) (h0 : -9223372036854775808 ≤ n) (h1 : n ≤ 9223372036854775807) : Tri Tryz.prog 69 #[.int .i64 n] [libW] [] (fun v L' => v = str (Lib.itoa n) ∧ L' = []) := by
  refine Tri.en F69 rfl K69 rfl fun w0 => ?_
  refine J.co 7 rfl ?_
  refine O.l (Lo.ca C103 (s_Itoa n (by omega) (by omega)) [] rfl rfl (.ro 0 rfl .nil)) rfl ?_
  rintro _ _ ⟨_, ⟨rfl, rfl⟩, rfl⟩
  refine O.oc 2 rfl ?_
  exact J.r0 rfl rfl ⟨rfl, rfl⟩

set_option maxRecDepth 100000 in
theorem dec_Parse (s : List UInt8) (hs : s.length ≤ 281474976710656) : Tri Tryz.prog 110 #[str s] [libW] [] (fun v L' => v = .tuple #[.int .i64 (Dc.parse s).1, .int .i64 (Dc.parse s).2] ∧ L' = []) := by
  refine Tri.en F110 rfl K110 rfl fun w0 => ?_
  refine J.co 8 rfl ?_
  refine O.l (Lo.ca C123 (s_ParseInt s (by omega)) [] rfl rfl (.ro 0 rfl .nil)) rfl ?_
  rintro _ _ ⟨_, ⟨⟨n1, er2, hn3, hn4, hok5, he6, hb7, rfl⟩, rfl⟩, rfl⟩
  refine O.oo 10 rfl ?_
  refine O.p (Pu.neNil N107 rfl he6 hb7) rfl ?_
  refine O.oo 1 rfl ?_
  refine O.sp 13 rfl (fun h9 => ?_) (fun h9 => ?_)
  ·
    have h10 : (Dc.okI s) = false := not_flip h9
    refine O.oc 12 rfl ?_
    exact J.rn [_, _] [] rfl ⟨rfl, rfl, trivial⟩ rfl ⟨(by first | (rw [Dc.parse_no (by assumption)]; rfl) | (rw [Dc.parse_bad (hok5 (by assumption)) (by assumption)]; rfl)), rfl⟩
  ·
    have h11 : (Dc.okI s) = true := not_flip h9
    refine O.oo 1 rfl ?_
    refine O.gl (t := 13) rfl rfl rfl rfl (Lo.ca C69 (dec_Text n1 (by omega) (by omega)) [] rfl rfl (.ro 0 rfl .nil)) rfl ?_
    rintro _ _ ⟨_, ⟨rfl, rfl⟩, rfl⟩
    refine O.oo 1 rfl ?_
    refine O.gq (t := 13) rfl rfl rfl rfl (Pu.qt (Pu.sNeq rfl rfl)) rfl ?_
    refine O.oc 2 rfl ?_
    refine J.cond rfl (fun h13 => ?_) (fun h13 => ?_)
    ·
      have h14 : ((Lib.itoa n1) == s) = false := not_flip h13
      refine J.cc 5 rfl ?_
      exact J.rn [_, _] [] rfl ⟨rfl, rfl, trivial⟩ rfl ⟨(by first | (rw [Dc.parse_no (by assumption)]; rfl) | (rw [Dc.parse_bad (hok5 (by assumption)) (by assumption)]; rfl)), rfl⟩
    ·
      have h15 : ((Lib.itoa n1) == s) = true := not_flip h13
      refine J.cc 7 rfl ?_
      exact J.rn [_, _] [] rfl ⟨rfl, rfl, trivial⟩ rfl ⟨(by rw [Dc.parse_ok (hok5 (by assumption)) (by assumption)]; rfl), rfl⟩

set_option maxRecDepth 100000 in
theorem r05_Text (n : Int) (hn : Dc.I64 n) : Tri Tryz.prog 76 #[.int .i64 n] [] [] (fun v L' => v = str (Lib.itoa n) ∧ L' = []) := by
  refine Tri.en F76 rfl K76 rfl fun w0 => ?_
  refine J.cc 10 rfl ?_
  refine J.cd rfl (fun p1 => ?_) (fun p1 => ?_)
  ·
    refine J.cc 4 rfl ?_
    exact J.r0 rfl rfl ⟨(by have hn0 : n = 0 := (by omega); subst hn0; rw [Dc.itoa_zero]; rfl), rfl⟩
  ·
    refine J.cc 9 rfl ?_
    refine J.lo (X := Int × List UInt8) (fun (k, t) => Dc.I64 k ∧ Dc.dig k ++ t = Dc.dig n) (fun (k, t) => [(3, str t), (4, .int .i64 k)]) (fun (k, t) => []) (fun (k, t) => k.natAbs) ⟨n, ([] : List UInt8)⟩ [0, 2] [] [] ⟨hn, by simp⟩ ⟨rfl, rfl, trivial⟩ rfl rfl ?_
    rintro ⟨k, t⟩ ⟨hk, hst⟩
    refine J.cc 6 rfl ?_
    refine J.cd rfl (fun p2 => ?_) (fun p2 => ?_)
    ·
      refine J.co 6 rfl ?_
      refine O.p (Pu.to (Pu.quo rfl rfl (by omega)) (congrArg (Value.int .i64) (Dc.quo_wrap hk))) rfl ?_
      refine O.p (Pu.mul' rfl rfl (by first | omega | (have h_ := Dc.t_parts k; have h2_ : Dc.I64 k := hk; unfold Dc.I64 at h2_; omega))) rfl ?_
      refine O.p (Pu.to (Pu.sub' rfl rfl (by first | omega | (have h_ := Dc.t_parts k; have h2_ : Dc.I64 k := hk; unfold Dc.I64 at h2_; omega))) (congrArg (Value.int .i64) Dc.low)) rfl ?_
      refine O.oc 8 rfl ?_
      refine J.cd rfl (fun p3 => ?_) (fun p3 => ?_)
      ·
        refine J.co 2 rfl ?_
        refine O.p (Pu.to (Pu.neg rfl) (congrArg (Value.int .i64) Dc.neg_wrap)) rfl ?_
        refine O.oo 6 rfl ?_
        refine O.p (Pu.add' rfl rfl (by first | omega | (have h_ := Dc.t_parts k; have h2_ : Dc.I64 k := hk; unfold Dc.I64 at h2_; omega))) rfl ?_
        refine O.p (Pu.sCut U9 rfl rfl rfl (by omega) (by omega) (by first | omega | (have h_ := Dc.t_parts k; have h2_ : Dc.I64 k := hk; unfold Dc.I64 at h2_; simp only [List.length_cons, List.length_nil]; omega) | (have h_ := Dc.t_parts k; have h2_ : Dc.I64 k := hk; unfold Dc.I64 at h2_; omega))) rfl ?_
        refine O.oo 1 rfl ?_
        refine O.p (Pu.sAdd rfl rfl (by have h_ := Dc.short hn hst; simp only [List.length_append, List.length_take, List.length_drop, List.length_cons, List.length_nil]; omega)) rfl ?_
        refine O.oo 4 rfl ?_
        refine O.p (Pu.to (Pu.quo rfl rfl (by omega)) (congrArg (Value.int .i64) (Dc.quo_wrap hk))) rfl ?_
        refine O.oc 3 rfl ?_
        exact J.lq ⟨Int.tdiv k 10, ((([48, 49, 50, 51, 52, 53, 54, 55, 56, 57]).drop (-(Int.tmod k 10)).toNat).take (((-(Int.tmod k 10)) + 1).toNat - (-(Int.tmod k 10)).toNat)) ++ t⟩ [0, 2] [] [] ⟨Dc.quo_I64 hk, Dc.text_step (by omega) (by have h_ := Dc.t_parts k; omega) (by omega) hst⟩ (show (Int.tdiv k 10).natAbs < k.natAbs from (by have h_ := Dc.t_parts k; omega)) ⟨rfl, rfl, trivial⟩ rfl rfl
      ·
        refine J.co 5 rfl ?_
        refine O.p (Pu.add' rfl rfl (by first | omega | (have h_ := Dc.t_parts k; have h2_ : Dc.I64 k := hk; unfold Dc.I64 at h2_; omega))) rfl ?_
        refine O.p (Pu.sCut U9 rfl rfl rfl (by omega) (by omega) (by first | omega | (have h_ := Dc.t_parts k; have h2_ : Dc.I64 k := hk; unfold Dc.I64 at h2_; simp only [List.length_cons, List.length_nil]; omega) | (have h_ := Dc.t_parts k; have h2_ : Dc.I64 k := hk; unfold Dc.I64 at h2_; omega))) rfl ?_
        refine O.oo 1 rfl ?_
        refine O.p (Pu.sAdd rfl rfl (by have h_ := Dc.short hn hst; simp only [List.length_append, List.length_take, List.length_drop, List.length_cons, List.length_nil]; omega)) rfl ?_
        refine O.oo 4 rfl ?_
        refine O.p (Pu.to (Pu.quo rfl rfl (by omega)) (congrArg (Value.int .i64) (Dc.quo_wrap hk))) rfl ?_
        refine O.oc 3 rfl ?_
        exact J.lq ⟨Int.tdiv k 10, ((([48, 49, 50, 51, 52, 53, 54, 55, 56, 57]).drop (Int.tmod k 10).toNat).take (((Int.tmod k 10) + 1).toNat - (Int.tmod k 10).toNat)) ++ t⟩ [0, 2] [] [] ⟨Dc.quo_I64 hk, Dc.text_step (by omega) (by have h_ := Dc.t_parts k; omega) (by omega) hst⟩ (show (Int.tdiv k 10).natAbs < k.natAbs from (by have h_ := Dc.t_parts k; omega)) ⟨rfl, rfl, trivial⟩ rfl rfl
    ·
      refine J.cc 7 rfl ?_
      refine J.cd rfl (fun p4 => ?_) (fun p4 => ?_)
      ·
        refine J.co 2 rfl ?_
        refine O.p (Pu.sAdd rfl rfl (by have h_ := Dc.short hn hst; simp only [List.length_append, List.length_take, List.length_drop, List.length_cons, List.length_nil]; omega)) rfl ?_
        refine O.oc 7 rfl ?_
        exact J.r0 rfl rfl ⟨(by have hk0 : k = 0 := (by omega); subst hk0; rw [Dc.text_neg (by omega) hst]; rfl), rfl⟩
      ·
        refine J.cc 6 rfl ?_
        exact J.r0 rfl rfl ⟨(by have hk0 : k = 0 := (by omega); subst hk0; rw [Dc.text_pos (by omega) (by omega) hst]; rfl), rfl⟩

end Go.Proofs.YtnhfgnnpbipcnaaGreatDoor
