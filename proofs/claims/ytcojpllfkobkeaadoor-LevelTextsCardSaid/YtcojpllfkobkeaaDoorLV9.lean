/-
  Walks, printed by a program of mine (lk.py): each function meets its contract.
-/
import Derived.KernelRfl
import Derived.Test.YtcojpllfkobkeaaDoorLV8
import Derived.Test.YtcojpllfkobkeaaDoorLV3
namespace Go.Proofs.YtcojpllfkobkeaaDoor
open Go Go.LK
set_option linter.unusedSimpArgs false

set_option maxRecDepth 100000 in
theorem r08_Text (b c l : Int) (hg : Lv.Grid b c) : Tri Tryd.prog 15 #[.int .i64 b, .int .i64 c, .int .i64 l] [] [] (fun v L' => v = .tuple #[str (Lv.text b c l).1, .int .i64 (Lv.text b c l).2] ∧ L' = []) := by
  refine Tri.enter (args := [.int .i64 b, .int .i64 c, .int .i64 l]) (body := _) 28 Tryd.func15 rfl Tryd.ntmps15 rfl ?_
  intro w0
  refine J.seq ?_
  refine J.region ?_
  refine O.p (Pu.assign rfl) rfl ?_
  refine O.p (Pu.assign rfl) rfl ?_
  refine O.nil ?_
  refine J.seq ?_
  refine J.region ?_
  refine O.p (Pu.move rfl) rfl ?_
  refine O.p (Pu.move rfl) rfl ?_
  refine O.p (Pu.move rfl) rfl ?_
  refine O.l (Lo.call [.int .i64 b, .int .i64 c, .int .i64 l] (by exact Tryd.call13) rfl (r08_Split b c l (by assumption)) [] [] (by decide) rfl _ rfl RoOk.nil) rfl ?_
  rintro _ _ ⟨_, ⟨rfl, rfl⟩, rfl⟩
  refine O.p (Pu.move rfl) rfl ?_
  refine O.p (Pu.extract rfl rfl) rfl ?_
  refine O.p (Pu.extract rfl rfl) rfl ?_
  refine O.p (Pu.extract rfl rfl) rfl ?_
  refine O.p (Pu.assign rfl) rfl ?_
  refine O.p (Pu.assign rfl) rfl ?_
  refine O.p (Pu.assign rfl) rfl ?_
  refine O.nil ?_
  refine J.seq ?_
  refine J.seq ?_
  refine J.region ?_
  refine O.p (Pu.move rfl) rfl ?_
  refine O.p (Pu.neq rfl rfl) rfl ?_
  refine O.nil ?_
  refine J.cond rfl (fun h2 => ?_) (fun h2 => ?_)
  ·
    have p3 := of_decide_eq_true h2
    refine J.seq ?_
    refine J.region ?_
    refine O.p (Pu.move rfl) rfl ?_
    refine O.p (Pu.assign rfl) rfl ?_
    refine O.p (Pu.assign rfl) rfl ?_
    refine O.nil ?_
    exact J.ret (Fin.ret (rs := [.tmp 6, .tmp 7]) rfl [_, _] ⟨rfl, rfl, trivial⟩ [] (by decide) [] rfl ⟨(by rw [Lv.text_no (by omega)]; rfl), rfl⟩)
  ·
    have p4 := of_decide_eq_false h2
    refine J.skip ?_
    refine J.seq ?_
    refine J.region ?_
    refine O.p (Pu.move rfl) rfl ?_
    refine O.l (Lo.call [.int .i64 ((Lv.split b c l).1)] (by exact Tryd.call20) rfl (r05_Text ((Lv.split b c l).1) (by have h_ := (show Lv.Ok b c from .inl hg).parts l; unfold Dc.I64; omega)) [] [] (by decide) rfl _ rfl RoOk.nil) rfl ?_
    rintro _ _ ⟨_, ⟨rfl, rfl⟩, rfl⟩
    refine O.p (Pu.sAdd rfl rfl (by have h_ := (show Lv.Ok b c from .inl hg).parts l; have h1_ := Lv.itoa_len h_.1 h_.2.1; have h2_ := Lv.itoa_len h_.2.2.1 h_.2.2.2; simp only [List.length_append, List.length_cons, List.length_nil]; omega)) rfl ?_
    refine O.p (Pu.move rfl) rfl ?_
    refine O.l (Lo.call [.int .i64 ((Lv.split b c l).2.1)] (by exact Tryd.call20) rfl (r05_Text ((Lv.split b c l).2.1) (by have h_ := (show Lv.Ok b c from .inl hg).parts l; unfold Dc.I64; omega)) [] [] (by decide) rfl _ rfl RoOk.nil) rfl ?_
    rintro _ _ ⟨_, ⟨rfl, rfl⟩, rfl⟩
    refine O.p (Pu.sAdd rfl rfl (by have h_ := (show Lv.Ok b c from .inl hg).parts l; have h1_ := Lv.itoa_len h_.1 h_.2.1; have h2_ := Lv.itoa_len h_.2.2.1 h_.2.2.2; simp only [List.length_append, List.length_cons, List.length_nil]; omega)) rfl ?_
    refine O.p (Pu.assign rfl) rfl ?_
    refine O.p (Pu.assign rfl) rfl ?_
    refine O.nil ?_
    exact J.ret (Fin.ret (rs := [.tmp 6, .tmp 7]) rfl [_, _] ⟨rfl, rfl, trivial⟩ [] (by decide) [] rfl ⟨(by rw [Lv.text_yes (by omega)]; rfl), rfl⟩)

set_option maxRecDepth 100000 in
theorem r08_Parse (b c : Int) (s : List UInt8) (hg : Lv.Grid b c) (hs : s.length ≤ 1000000) : Tri Tryd.prog 17 #[.int .i64 b, .int .i64 c, str s] [] [] (fun v L' => v = .tuple #[.int .i64 (Lv.parse b c s).1, .int .i64 (Lv.parse b c s).2] ∧ L' = []) := by
  refine Tri.enter (args := [.int .i64 b, .int .i64 c, str s]) (body := _) 51 Tryd.func17 rfl Tryd.ntmps17 rfl ?_
  intro w0
  refine J.seq ?_
  refine J.region ?_
  refine O.p (Pu.assign rfl) rfl ?_
  refine O.p (Pu.assign rfl) rfl ?_
  refine O.nil ?_
  refine J.seq ?_
  refine J.seq ?_
  refine J.region ?_
  refine O.p (Pu.assign rfl) rfl ?_
  refine O.nil ?_
  refine J.block ?_
  refine J.loop (X := Nat) (fun ξ => ξ ≤ s.length ∧ Lv.noDot s ξ) (fun ξ => [(0, .int .i64 b), (1, .int .i64 c), (2, str s), (8, .int .i64 (ξ : Int))]) (fun ξ => []) (fun ξ => s.length - ξ) 0 (show 0 ≤ s.length ∧ Lv.noDot s 0 from ⟨by omega, Lv.noDot_zero⟩) ⟨rfl, rfl, rfl, (congrArg (fun z => some (Value.int .i64 z)) (by first | rfl | omega : (0 : Int) = (0 : Int))), trivial⟩ [] (by decide) rfl ?_
  rintro i hq1
  obtain ⟨hi, hno⟩ : i ≤ s.length ∧ Lv.noDot s i := hq1
  show J _ _ [(0, .int .i64 b), (1, .int .i64 c), (2, str s), (8, .int .i64 (i : Int))] []
  refine J.seq ?_
  refine J.seq ?_
  refine J.region ?_
  refine O.p (Pu.move rfl) rfl ?_
  refine O.p (Pu.move rfl) rfl ?_
  refine O.p (Pu.sLen Tryd.runUnderlying9 rfl) rfl ?_
  refine O.p (Pu.lss rfl rfl) rfl ?_
  refine O.nil ?_
  refine J.cond rfl (fun h2 => ?_) (fun h2 => ?_)
  ·
    have p3 := of_decide_eq_true h2
    refine J.skip ?_
    refine J.seq ?_
    refine J.block ?_
    refine J.seq ?_
    refine J.seq ?_
    refine J.region ?_
    refine O.p (Pu.move rfl) rfl ?_
    refine O.p (Pu.move rfl) rfl ?_
    obtain ⟨b4, hb5⟩ : ∃ x_, s[((i : Int) : Int).toNat]? = some x_ := ⟨_, List.getElem?_eq_getElem (by first | omega | (simp only [List.length_append, List.length_cons, List.length_nil, List.length_set]; omega))⟩
    refine O.p (Pu.sIdx Tryd.runUnderlying9 rfl rfl (by first | omega | (simp only [List.length_append, List.length_cons, List.length_nil, List.length_set]; omega)) hb5) rfl ?_
    refine O.p (Pu.neq rfl rfl) rfl ?_
    refine O.nil ?_
    refine J.cond rfl (fun h6 => ?_) (fun h6 => ?_)
    ·
      have p7 := of_decide_eq_true h6
      refine J.exit _ rfl ?_
      refine J.region ?_
      refine O.p (Pu.move rfl) rfl ?_
      refine O.p (Pu.add' rfl rfl (by first | omega | (simp only [List.length_append, List.length_cons, List.length_nil, List.length_set]; omega))) rfl ?_
      refine O.p (Pu.assign rfl) rfl ?_
      refine O.nil ?_
      exact J.lp (i + 1) (show (i + 1) ≤ s.length ∧ Lv.noDot s (i + 1) from ⟨by omega, Lv.noDot_next hno (by assumption) (by omega)⟩) (show s.length - (i + 1) < s.length - i from (by first | omega | (simp only [List.length_append, List.length_cons, List.length_nil, List.length_set]; omega))) ⟨rfl, rfl, rfl, (congrArg (fun z => some (Value.int .i64 z)) (by first | rfl | omega : ((i : Int) + 1 : Int) = ((i + 1) : Int))), trivial⟩ [] (by decide) rfl
    ·
      have p8 := of_decide_eq_false h6
      refine J.skip ?_
      refine J.seq ?_
      refine J.region ?_
      refine O.p (Pu.move rfl) rfl ?_
      refine O.p (Pu.move rfl) rfl ?_
      refine O.p (Pu.to (Pu.sHead Tryd.runUnderlying9 rfl rfl (by first | omega | (simp only [List.length_append, List.length_cons, List.length_nil, List.length_set]; omega)) (by first | omega | (simp only [List.length_append, List.length_cons, List.length_nil, List.length_set]; omega))) (congrArg str (by first | rfl | (congr 1; done) | (congr 1; omega)))) rfl ?_
      refine O.l (Lo.call [str (s.take (i))] (by exact Tryd.call23) rfl (r05_Parse (s.take (i)) (by simp only [List.length_take, List.length_drop]; omega)) [] [] (by decide) rfl _ rfl RoOk.nil) rfl ?_
      rintro _ _ ⟨_, ⟨rfl, rfl⟩, rfl⟩
      refine O.p (Pu.move rfl) rfl ?_
      refine O.p (Pu.extract rfl rfl) rfl ?_
      refine O.p (Pu.extract rfl rfl) rfl ?_
      refine O.p (Pu.assign rfl) rfl ?_
      refine O.p (Pu.assign rfl) rfl ?_
      refine O.nil ?_
      refine J.seq ?_
      refine J.region ?_
      refine O.p (Pu.move rfl) rfl ?_
      refine O.p (Pu.move rfl) rfl ?_
      refine O.p (Pu.add' rfl rfl (by first | omega | (simp only [List.length_append, List.length_cons, List.length_nil, List.length_set]; omega))) rfl ?_
      refine O.p (Pu.to (Pu.sTail Tryd.runUnderlying9 rfl rfl (by first | omega | (simp only [List.length_append, List.length_cons, List.length_nil, List.length_set]; omega)) (by first | omega | (simp only [List.length_append, List.length_cons, List.length_nil, List.length_set]; omega))) (congrArg str (by first | rfl | (congr 1; done) | (congr 1; omega)))) rfl ?_
      refine O.l (Lo.call [str (s.drop (i + 1))] (by exact Tryd.call23) rfl (r05_Parse (s.drop (i + 1)) (by simp only [List.length_take, List.length_drop]; omega)) [] [] (by decide) rfl _ rfl RoOk.nil) rfl ?_
      rintro _ _ ⟨_, ⟨rfl, rfl⟩, rfl⟩
      refine O.p (Pu.move rfl) rfl ?_
      refine O.p (Pu.extract rfl rfl) rfl ?_
      refine O.p (Pu.extract rfl rfl) rfl ?_
      refine O.p (Pu.assign rfl) rfl ?_
      refine O.p (Pu.assign rfl) rfl ?_
      refine O.nil ?_
      refine J.seq ?_
      refine J.seq ?_
      refine J.region ?_
      refine O.p (Pu.move rfl) rfl ?_
      refine O.p (Pu.neq rfl rfl) rfl ?_
      refine O.p (Pu.move rfl) rfl ?_
      refine by_bool (decide (((Dc.parse (s.take (i))).2) ≠ 0)) (fun h11 => ?_) (fun h11 => ?_)
      ·
        have p12 := of_decide_eq_true h11
        refine O.gskip (t := 40) rfl rfl (no_bool (by rw [h11]; decide)) rfl rfl ?_
        refine O.gskip (t := 40) rfl rfl (no_bool (by rw [h11]; decide)) rfl rfl ?_
        refine O.p (Pu.pickT rfl h11 rfl) rfl ?_
        refine O.nil ?_
        refine J.condT rfl rfl ?_
        refine J.seq ?_
        refine J.region ?_
        refine O.p (Pu.assign rfl) rfl ?_
        refine O.p (Pu.assign rfl) rfl ?_
        refine O.nil ?_
        exact J.ret (Fin.ret (rs := [.tmp 6, .tmp 7]) rfl [_, _] ⟨rfl, rfl, trivial⟩ [] (by decide) [] rfl ⟨(by first | (rw [Lv.parse_bad hno (by assumption) (by omega) (by omega)]; rfl) | (rw [Lv.parse_dots (by have hi_ : i = s.length := (by omega); subst hi_; exact hno)]; rfl)), rfl⟩)
      ·
        have p13 := of_decide_eq_false h11
        refine O.gq (t := 40) rfl rfl h11 rfl (Pu.qt (Pu.move rfl)) rfl ?_
        refine O.gq (t := 40) rfl rfl h11 rfl (Pu.qt (Pu.neq rfl rfl)) rfl ?_
        refine O.p (Pu.pickF rfl h11 rfl) rfl ?_
        refine O.nil ?_
        refine J.cond rfl (fun h14 => ?_) (fun h14 => ?_)
        ·
          have p15 := of_decide_eq_true h14
          refine J.seq ?_
          refine J.region ?_
          refine O.p (Pu.assign rfl) rfl ?_
          refine O.p (Pu.assign rfl) rfl ?_
          refine O.nil ?_
          exact J.ret (Fin.ret (rs := [.tmp 6, .tmp 7]) rfl [_, _] ⟨rfl, rfl, trivial⟩ [] (by decide) [] rfl ⟨(by first | (rw [Lv.parse_bad hno (by assumption) (by omega) (by omega)]; rfl) | (rw [Lv.parse_dots (by have hi_ : i = s.length := (by omega); subst hi_; exact hno)]; rfl)), rfl⟩)
        ·
          have p16 := of_decide_eq_false h14
          refine J.skip ?_
          refine J.seq ?_
          refine J.region ?_
          refine O.p (Pu.move rfl) rfl ?_
          refine O.p (Pu.move rfl) rfl ?_
          refine O.p (Pu.move rfl) rfl ?_
          refine O.p (Pu.move rfl) rfl ?_
          refine O.l (Lo.call [.int .i64 b, .int .i64 c, .int .i64 ((Dc.parse (s.take (i))).1), .int .i64 ((Dc.parse (s.drop (i + 1))).1)] (by exact Tryd.call12) rfl (r08_Of b c ((Dc.parse (s.take (i))).1) ((Dc.parse (s.drop (i + 1))).1) (by assumption)) [] [] (by decide) rfl _ rfl RoOk.nil) rfl ?_
          rintro _ _ ⟨_, ⟨rfl, rfl⟩, rfl⟩
          refine O.p (Pu.extract rfl rfl) rfl ?_
          refine O.p (Pu.extract rfl rfl) rfl ?_
          refine O.p (Pu.assign rfl) rfl ?_
          refine O.p (Pu.assign rfl) rfl ?_
          refine O.nil ?_
          exact J.ret (Fin.ret (rs := [.tmp 6, .tmp 7]) rfl [_, _] ⟨rfl, rfl, trivial⟩ [] (by decide) [] rfl ⟨(by rw [Lv.parse_good hno (by assumption) (by omega) (by omega) (by omega)]; rfl), rfl⟩)
  ·
    have p18 := of_decide_eq_false h2
    refine J.exit _ rfl ?_
    refine J.seq ?_
    refine J.region ?_
    refine O.p (Pu.assign rfl) rfl ?_
    refine O.p (Pu.assign rfl) rfl ?_
    refine O.nil ?_
    exact J.ret (Fin.ret (rs := [.tmp 6, .tmp 7]) rfl [_, _] ⟨rfl, rfl, trivial⟩ [] (by decide) [] rfl ⟨(by first | (rw [Lv.parse_bad hno (by assumption) (by omega) (by omega)]; rfl) | (rw [Lv.parse_dots (by have hi_ : i = s.length := (by omega); subst hi_; exact hno)]; rfl)), rfl⟩)

end Go.Proofs.YtcojpllfkobkeaaDoor
