/-
  Walks, printed by a program of mine (lk.py): each function meets its contract.
-/
import Derived.KernelRfl
import Derived.Test.YtnhfgnnpbipcnaaGreatDoorNumsT
import Derived.Test.YtnhfgnnpbipcnaaGreatDoorWordsA
import Derived.Test.YtnhfgnnpbipcnaaGreatDoorFo
namespace Go.Proofs.YtnhfgnnpbipcnaaGreatDoor
open Go Go.LK
set_option linter.unusedSimpArgs false

set_option maxRecDepth 100000 in
theorem w_nl (c : Int) : Tri Tryz.prog 86 #[.int .i32 c] [] [] (fun v L' => v = .bool (Wd.spL c) ∧ L' = []) := by
  refine Tri.en F86 rfl K86 rfl fun w0 => ?_
  refine J.cc 10 rfl ?_
  exact J.r0 rfl rfl ⟨rfl, rfl⟩

set_option maxRecDepth 100000 in
theorem w_bl (c : Int) : Tri Tryz.prog 87 #[.int .i32 c] [] [] (fun v L' => v = .bool (Wd.spW c) ∧ L' = []) := by
  refine Tri.en F87 rfl K87 rfl fun w0 => ?_
  refine J.co 9 rfl ?_
  refine O.sd 5 rfl (fun p1 => ?_) (fun p1 => ?_)
  ·
    refine O.oc 5 rfl ?_
    exact J.r0 rfl rfl ⟨(by simp [vOf, Wd.spW, *]), rfl⟩
  ·
    refine O.oc 5 rfl ?_
    exact J.r0 rfl rfl ⟨(by simp [vOf, Wd.spW, *]), rfl⟩

set_option maxRecDepth 100000 in
theorem w_partedL (s : List UInt8) (hs : s.length ≤ 1000000) : Tri Tryz.prog 85 #[str s, .func (.func 86) #[] #[], .int .i32 (-1)] [] [] (fun v L' => L' = [row v 9 1 ((Wd.parts Wd.nl (-1) s).map encS)]) := by
  refine Tri.en F85 rfl K85 rfl fun w0 => ?_
  refine J.co 19 rfl ?_
  refine O.l (Lo.range N9 rfl) rfl ?_
  rintro _ _ ⟨g1, rfl, rfl⟩
  refine O.oc 2 rfl ?_
  refine J.nilRow 9 1 ?_
  refine J.lo (X := Nat × Nat × Value × List Wd.Bs) (fun (i, fr, V, out) => Wd.PI (fun c => Wd.spL c.toNat) (-1) s fr i out) (fun (i, fr, V, out) => [(0, str s), (7, V), (8, .int .i64 (fr : Int))]) (fun (i, fr, V, out) => [itS g1 s i, row V 9 1 (out.map encS)]) (fun (i, fr, V, out) => s.length - i) ⟨0, 0, Value.slice none 0 0, []⟩ [1, 2, 6, 12] [1, 0] [] Wd.pi_zero ⟨rfl, rfl, (eqi (by omega)), trivial⟩ rfl rfl ?_
  rintro ⟨i, fr, V, out⟩ hp
  dsimp only at hp
  have hl_ := Wd.pi_len hp
  refine J.co 2 rfl ?_
  refine by_bool (decide (i < s.length)) (fun h2 => ?_) (fun h2 => ?_)
  ·
    have p3 := of_decide_eq_true h2
    obtain ⟨b4, hb4⟩ := ex_at (l := s) (i := i) (of_decide_eq_true h2)
    have hrb4 := Wd.rune_num hb4
    refine O.l (Lo.next 0 rfl rfl (of_decide_eq_true h2)) rfl ?_
    rintro _ _ ⟨rfl, rfl⟩
    refine O.oc 21 rfl ?_
    refine J.cd rfl (fun p5 => ?_) (fun p5 => ?_)
    ·
      refine J.co 4 rfl ?_
      refine O.p (Pu.sHead U9 rfl rfl (by omega) (by omega)) rfl ?_
      refine O.oo 8 rfl ?_
      refine O.p (Pu.sTail U9 rfl rfl (by omega) (by omega)) rfl ?_
      refine O.l (Lo.bm encS [(s.take ((i : Int)).toNat).drop ((fr : Int)).toNat] U72 Z9 Y9 rfl rfl rfl (by kernel_rfl) rfl rfl) rfl ?_
      rintro V6 _ rfl
      refine O.l (Lo.am 2 N72 info9 rfl rfl rfl rfl rfl (Src.row 0 rfl) encS.one (by omega) (by omega)) rfl ?_
      rintro V7 _ rfl
      refine O.oc 2 rfl ?_
      exact J.r1 [2] rfl rfl rfl (congrArg (fun (o : List Wd.Bs) => ([row V7 9 1 (o.map encS)] : List Sp)) (by first | exact Wd.pi_stopR (i := i) (fr := fr) (sp := Wd.spL) (e := -1) (by decide) hp (by assumption) (by omega) | exact Wd.pi_done hp (by omega)))
    ·
      refine J.co 4 rfl ?_
      refine O.l (Lo.cv C86 rfl rfl (w_nl ((rune s i).1 : Int)) [] rfl .nil) rfl ?_
      rintro _ _ ⟨_, ⟨rfl, rfl⟩, rfl⟩
      refine O.oc 2 rfl ?_
      refine J.cond rfl (fun h9 => ?_) (fun h9 => ?_)
      ·
        refine J.co 6 rfl ?_
        refine O.p (Pu.sCut U9 rfl rfl rfl (by omega) (by omega) (by omega)) rfl ?_
        refine O.l (Lo.bm encS [(s.drop ((fr : Int)).toNat).take (((i : Int)).toNat - ((fr : Int)).toNat)] U72 Z9 Y9 rfl rfl rfl (by kernel_rfl) rfl rfl) rfl ?_
        rintro V10 _ rfl
        refine O.l (Lo.am 2 N72 info9 rfl rfl rfl rfl rfl (Src.row 0 rfl) encS.one (by first | omega | (simp only [List.length_take]; omega) | (simp only [List.length_append, List.length_cons, List.length_nil]; omega)) (by first | omega | (simp only [List.length_take]; omega) | (simp only [List.length_append, List.length_cons, List.length_nil]; omega))) rfl ?_
        rintro V11 _ rfl
        refine O.oo 4 rfl ?_
        refine O.p (Pu.add' rfl rfl (by omega)) rfl ?_
        refine O.oc 4 rfl ?_
        exact J.lq ⟨i + (rune s i).2, i + 1, V11, out ++ ([(s.drop ((fr : Int)).toNat).take (((i : Int)).toNat - ((fr : Int)).toNat)])⟩ [1, 2, 6, 12] [1, 2] [] (by first | exact Wd.pi_cutR (sp := Wd.spL) (e := -1) (fun z h => Wd.spL_big h) hp (by assumption) (by assumption) (by omega) | exact Wd.pi_rune (sp := Wd.spL) (e := -1) (fun z h => Wd.spL_big h) (by decide) hp (by assumption) (by assumption) (by omega)) (by dsimp only; omega) ⟨rfl, rfl, (eqi (by omega)), trivial⟩ rfl rfl
      ·
        refine J.cc 3 rfl ?_
        exact J.lq ⟨i + (rune s i).2, fr, V, out⟩ [1, 2, 6, 12] [0, 1] [] (by first | exact Wd.pi_cutR (sp := Wd.spL) (e := -1) (fun z h => Wd.spL_big h) hp (by assumption) (by assumption) (by omega) | exact Wd.pi_rune (sp := Wd.spL) (e := -1) (fun z h => Wd.spL_big h) (by decide) hp (by assumption) (by assumption) (by omega)) (by dsimp only; omega) ⟨rfl, rfl, rfl, trivial⟩ rfl rfl
  ·
    have p12 := of_decide_eq_false h2
    refine O.l (Lo.nextEnd 0 rfl rfl (of_decide_eq_false h2)) rfl ?_
    rintro _ _ ⟨rfl, rfl⟩
    refine O.oo 10 rfl ?_
    refine O.p (Pu.sTail U9 rfl rfl (by omega) (by omega)) rfl ?_
    refine O.l (Lo.bm encS [s.drop ((fr : Int)).toNat] U72 Z9 Y9 rfl rfl rfl (by kernel_rfl) rfl rfl) rfl ?_
    rintro V13 _ rfl
    refine O.l (Lo.am 2 N72 info9 rfl rfl rfl rfl rfl (Src.row 0 rfl) encS.one (by first | omega | (simp only [List.length_take]; omega) | (simp only [List.length_append, List.length_cons, List.length_nil]; omega)) (by first | omega | (simp only [List.length_take]; omega) | (simp only [List.length_append, List.length_cons, List.length_nil]; omega))) rfl ?_
    rintro V14 _ rfl
    refine O.oc 2 rfl ?_
    exact J.r1 [2] rfl rfl rfl (congrArg (fun (o : List Wd.Bs) => ([row V14 9 1 (o.map encS)] : List Sp)) (by first | exact Wd.pi_stopR (i := i) (fr := fr) (sp := Wd.spL) (e := -1) (by decide) hp (by assumption) (by omega) | exact Wd.pi_done hp (by omega)))

set_option maxRecDepth 100000 in
theorem w_partedW (s : List UInt8) (hs : s.length ≤ 1000000) : Tri Tryz.prog 85 #[str s, .func (.func 87) #[] #[], .int .i32 35] [] [] (fun v L' => L' = [row v 9 1 ((Wd.parts Wd.bl 35 s).map encS)]) := by
  refine Tri.en F85 rfl K85 rfl fun w0 => ?_
  refine J.co 19 rfl ?_
  refine O.l (Lo.range N9 rfl) rfl ?_
  rintro _ _ ⟨g1, rfl, rfl⟩
  refine O.oc 2 rfl ?_
  refine J.nilRow 9 1 ?_
  refine J.lo (X := Nat × Nat × Value × List Wd.Bs) (fun (i, fr, V, out) => Wd.PI (fun c => Wd.spW c.toNat) 35 s fr i out) (fun (i, fr, V, out) => [(0, str s), (7, V), (8, .int .i64 (fr : Int))]) (fun (i, fr, V, out) => [itS g1 s i, row V 9 1 (out.map encS)]) (fun (i, fr, V, out) => s.length - i) ⟨0, 0, Value.slice none 0 0, []⟩ [1, 2, 6, 12] [1, 0] [] Wd.pi_zero ⟨rfl, rfl, (eqi (by omega)), trivial⟩ rfl rfl ?_
  rintro ⟨i, fr, V, out⟩ hp
  dsimp only at hp
  have hl_ := Wd.pi_len hp
  refine J.co 2 rfl ?_
  refine by_bool (decide (i < s.length)) (fun h2 => ?_) (fun h2 => ?_)
  ·
    have p3 := of_decide_eq_true h2
    obtain ⟨b4, hb4⟩ := ex_at (l := s) (i := i) (of_decide_eq_true h2)
    have hrb4 := Wd.rune_num hb4
    refine O.l (Lo.next 0 rfl rfl (of_decide_eq_true h2)) rfl ?_
    rintro _ _ ⟨rfl, rfl⟩
    refine O.oc 21 rfl ?_
    refine J.cd rfl (fun p5 => ?_) (fun p5 => ?_)
    ·
      refine J.co 4 rfl ?_
      refine O.p (Pu.sHead U9 rfl rfl (by omega) (by omega)) rfl ?_
      refine O.oo 8 rfl ?_
      refine O.p (Pu.sTail U9 rfl rfl (by omega) (by first | omega | (simp only [List.length_take]; omega) | (simp only [List.length_append, List.length_cons, List.length_nil]; omega))) rfl ?_
      refine O.l (Lo.bm encS [(s.take ((i : Int)).toNat).drop ((fr : Int)).toNat] U72 Z9 Y9 rfl rfl rfl (by kernel_rfl) rfl rfl) rfl ?_
      rintro V6 _ rfl
      refine O.l (Lo.am 2 N72 info9 rfl rfl rfl rfl rfl (Src.row 0 rfl) encS.one (by first | omega | (simp only [List.length_take]; omega) | (simp only [List.length_append, List.length_cons, List.length_nil]; omega)) (by first | omega | (simp only [List.length_take]; omega) | (simp only [List.length_append, List.length_cons, List.length_nil]; omega))) rfl ?_
      rintro V7 _ rfl
      refine O.oc 2 rfl ?_
      exact J.r1 [2] rfl rfl rfl (congrArg (fun (o : List Wd.Bs) => ([row V7 9 1 (o.map encS)] : List Sp)) (by first | exact Wd.pi_stopR (i := i) (fr := fr) (sp := Wd.spW) (e := 35) (by decide) hp (by assumption) (by omega) | exact Wd.pi_done hp (by omega)))
    ·
      refine J.co 4 rfl ?_
      refine O.l (Lo.cv C87 rfl rfl (w_bl ((rune s i).1 : Int)) [] rfl .nil) rfl ?_
      rintro _ _ ⟨_, ⟨rfl, rfl⟩, rfl⟩
      refine O.oc 2 rfl ?_
      refine J.cond rfl (fun h9 => ?_) (fun h9 => ?_)
      ·
        refine J.co 6 rfl ?_
        refine O.p (Pu.sCut U9 rfl rfl rfl (by omega) (by omega) (by omega)) rfl ?_
        refine O.l (Lo.bm encS [(s.drop ((fr : Int)).toNat).take (((i : Int)).toNat - ((fr : Int)).toNat)] U72 Z9 Y9 rfl rfl rfl (by kernel_rfl) rfl rfl) rfl ?_
        rintro V10 _ rfl
        refine O.l (Lo.am 2 N72 info9 rfl rfl rfl rfl rfl (Src.row 0 rfl) encS.one (by first | omega | (simp only [List.length_take]; omega) | (simp only [List.length_append, List.length_cons, List.length_nil]; omega)) (by first | omega | (simp only [List.length_take]; omega) | (simp only [List.length_append, List.length_cons, List.length_nil]; omega))) rfl ?_
        rintro V11 _ rfl
        refine O.oo 4 rfl ?_
        refine O.p (Pu.add' rfl rfl (by omega)) rfl ?_
        refine O.oc 4 rfl ?_
        exact J.lq ⟨i + (rune s i).2, i + 1, V11, out ++ ([(s.drop ((fr : Int)).toNat).take (((i : Int)).toNat - ((fr : Int)).toNat)])⟩ [1, 2, 6, 12] [1, 2] [] (by first | exact Wd.pi_cutR (sp := Wd.spW) (e := 35) (fun z h => Wd.spW_big h) hp (by assumption) (by assumption) (by omega) | exact Wd.pi_rune (sp := Wd.spW) (e := 35) (fun z h => Wd.spW_big h) (by decide) hp (by assumption) (by assumption) (by omega)) (by dsimp only; omega) ⟨rfl, rfl, (eqi (by omega)), trivial⟩ rfl rfl
      ·
        refine J.cc 3 rfl ?_
        exact J.lq ⟨i + (rune s i).2, fr, V, out⟩ [1, 2, 6, 12] [0, 1] [] (by first | exact Wd.pi_cutR (sp := Wd.spW) (e := 35) (fun z h => Wd.spW_big h) hp (by assumption) (by assumption) (by omega) | exact Wd.pi_rune (sp := Wd.spW) (e := 35) (fun z h => Wd.spW_big h) (by decide) hp (by assumption) (by assumption) (by omega)) (by dsimp only; omega) ⟨rfl, rfl, rfl, trivial⟩ rfl rfl
  ·
    have p12 := of_decide_eq_false h2
    refine O.l (Lo.nextEnd 0 rfl rfl (of_decide_eq_false h2)) rfl ?_
    rintro _ _ ⟨rfl, rfl⟩
    refine O.oo 10 rfl ?_
    refine O.p (Pu.sTail U9 rfl rfl (by omega) (by omega)) rfl ?_
    refine O.l (Lo.bm encS [s.drop ((fr : Int)).toNat] U72 Z9 Y9 rfl rfl rfl (by kernel_rfl) rfl rfl) rfl ?_
    rintro V13 _ rfl
    refine O.l (Lo.am 2 N72 info9 rfl rfl rfl rfl rfl (Src.row 0 rfl) encS.one (by first | omega | (simp only [List.length_take]; omega) | (simp only [List.length_append, List.length_cons, List.length_nil]; omega)) (by first | omega | (simp only [List.length_take]; omega) | (simp only [List.length_append, List.length_cons, List.length_nil]; omega))) rfl ?_
    rintro V14 _ rfl
    refine O.oc 2 rfl ?_
    exact J.r1 [2] rfl rfl rfl (congrArg (fun (o : List Wd.Bs) => ([row V14 9 1 (o.map encS)] : List Sp)) (by first | exact Wd.pi_stopR (i := i) (fr := fr) (sp := Wd.spW) (e := 35) (by decide) hp (by assumption) (by omega) | exact Wd.pi_done hp (by omega)))

set_option maxRecDepth 100000 in
theorem w_Lines (s : List UInt8) (hs : s.length ≤ 1000000) : Tri Tryz.prog 48 #[str s] [] [] (fun v L' => L' = [row v 9 1 ((Wd.linesL s).map encS)]) := by
  have hne_ := List.length_pos_iff.2 (Wd.parts_ne (p := Wd.nl) (e := -1) (s := s)); have hpl_ := Wd.parts_len (p := Wd.nl) (e := -1) s
  refine Tri.en F48 rfl K48 rfl fun w0 => ?_
  refine J.co 7 rfl ?_
  refine O.l (Lo.ca C85 (w_partedL s (by omega)) [] rfl rfl .nil) rfl ?_
  rintro v1 _ ⟨_, rfl, rfl⟩
  refine O.oo 7 rfl ?_
  refine O.q (Qt.lenM U72 rfl (Src.row 0 rfl)) rfl ?_
  refine O.p (Pu.sub' rfl rfl (by omega)) rfl ?_
  obtain ⟨e2, he2⟩ := ex_at (l := Wd.parts Wd.nl (-1) s) (i := ((Wd.parts Wd.nl (-1) s).length - 1)) (by omega)
  refine O.q (Qt.idxM U72 Z9 rfl (Src.row 0 rfl) rfl (by omega) (by omega)) rfl ?_
  refine O.q (Qt.le A9 (Src.row 0 rfl) he2 0 rfl (by omega) rfl) rfl ?_
  refine O.p (Pu.sEql rfl rfl) rfl ?_
  refine O.nil ?_
  refine J.cond rfl (fun h3 => ?_) (fun h3 => ?_)
  ·
    refine J.co 4 rfl ?_
    refine O.q (Qt.lenM U72 rfl (Src.row 0 rfl)) rfl ?_
    refine O.p (Pu.sub' rfl rfl (by omega)) rfl ?_
    refine O.l (Lo.headRow 0 U72 Z9 rfl rfl rfl (by omega) (by omega)) rfl ?_
    rintro _ _ ⟨rfl, rfl⟩
    refine O.oc 2 rfl ?_
    exact J.r1 [0] rfl rfl rfl (congrArg (fun (o : List Wd.Bs) => ([row (vcut v1 1 0 (((Wd.parts Wd.nl (-1) s).length : Int) - 1).toNat) 9 1 (o.map encS)] : List Sp)) (by first | (rw [Wd.lines_yes rfl (by assumption) (by assumption)]; exact congrArg (fun m => List.take m _) (by omega)) | exact (Wd.lines_no rfl (by assumption) (by assumption)).symm))
  ·
    refine J.cc 6 rfl ?_
    exact J.r1 [0] rfl rfl rfl (congrArg (fun (o : List Wd.Bs) => ([row v1 9 1 (o.map encS)] : List Sp)) (by first | (rw [Wd.lines_yes rfl (by assumption) (by assumption)]; exact congrArg (fun m => List.take m _) (by omega)) | exact (Wd.lines_no rfl (by assumption) (by assumption)).symm))

set_option maxRecDepth 100000 in
theorem w_Words (s : List UInt8) (hs : s.length ≤ 1000000) : Tri Tryz.prog 49 #[str s] [] [] (fun v L' => L' = [row v 9 1 ((Wd.wordsL s).map encS)]) := by
  have hpl_ := Wd.parts_len (p := Wd.bl) (e := 35) s
  refine Tri.en F49 rfl K49 rfl fun w0 => ?_
  refine J.co 12 rfl ?_
  refine O.l (Lo.ca C85 (w_partedW s (by omega)) [] rfl rfl .nil) rfl ?_
  rintro v1 _ ⟨_, rfl, rfl⟩
  refine O.q (Qt.lenM U72 rfl (Src.row 0 rfl)) rfl ?_
  refine O.oc 3 rfl ?_
  refine J.nilRow 9 1 ?_
  refine J.lo (X := Nat × Value × List Wd.Bs) (fun (k, V, out) => k ≤ (Wd.parts Wd.bl 35 s).length ∧ out = Wd.flt ((Wd.parts Wd.bl 35 s).take k)) (fun (k, V, out) => [(3, V), (9, .int .i64 (k : Int))]) (fun (k, V, out) => [row V 9 1 (out.map encS)]) (fun (k, V, out) => (Wd.parts Wd.bl 35 s).length - k) ⟨0, Value.slice none 0 0, []⟩ [2, 7, 8] [0] [1] ⟨by omega, rfl⟩ ⟨rfl, (eqi (by omega)), trivial⟩ rfl rfl ?_
  rintro ⟨k, V, out⟩ ⟨hk, hout⟩
  refine J.cc 5 rfl ?_
  refine J.cd rfl (fun p2 => ?_) (fun p2 => ?_)
  ·
    refine J.co 5 rfl ?_
    obtain ⟨e3, he3⟩ := ex_at (l := Wd.parts Wd.bl 35 s) (i := k) (by omega)
    refine O.q (Qt.idxM U72 Z9 rfl (Src.row 1 rfl) rfl (by omega) (by omega)) rfl ?_
    refine O.q (Qt.le A9 (Src.row 1 rfl) he3 0 rfl (by omega) rfl) rfl ?_
    refine O.oo 5 rfl ?_
    refine O.p (Pu.sNeq rfl rfl) rfl ?_
    refine O.nil ?_
    refine J.cond rfl (fun h4 => ?_) (fun h4 => ?_)
    ·
      have h5 : (e3 == ([] : List UInt8)) = false := not_flip h4
      refine J.co 3 rfl ?_
      refine O.l (Lo.bm encS [e3] U72 Z9 Y9 rfl rfl rfl (by kernel_rfl) rfl rfl) rfl ?_
      rintro V6 _ rfl
      refine O.l (Lo.am 1 N72 info9 rfl rfl rfl rfl rfl (Src.row 0 rfl) encS.one (by first | omega | (have h2_ := Wd.flt_le ((Wd.parts Wd.bl 35 s).take k); rw [← hout, List.length_take] at h2_; simp only [List.length_cons, List.length_nil]; omega)) (by first | omega | (have h2_ := Wd.flt_le ((Wd.parts Wd.bl 35 s).take k); rw [← hout, List.length_take] at h2_; simp only [List.length_cons, List.length_nil]; omega))) rfl ?_
      rintro V7 _ rfl
      refine O.oo 4 rfl ?_
      refine O.p (Pu.add' rfl rfl (by omega)) rfl ?_
      refine O.oc 2 rfl ?_
      exact J.lq ⟨k + 1, V7, out ++ ([e3])⟩ [2, 7, 8] [1] [2] ⟨by omega, (by rw [hout]; first | exact (Wd.flt_next1 (by assumption) (by assumption)).symm | exact (Wd.flt_next0 (by assumption) (by assumption)).symm)⟩ (by dsimp only; omega) ⟨rfl, (eqi (by omega)), trivial⟩ rfl rfl
    ·
      have h8 : (e3 == ([] : List UInt8)) = true := not_flip h4
      refine J.co 3 rfl ?_
      refine O.p (Pu.add' rfl rfl (by omega)) rfl ?_
      refine O.oc 2 rfl ?_
      exact J.lq ⟨k + 1, V, out⟩ [2, 7, 8] [0] [1] ⟨by omega, (by rw [hout]; first | exact (Wd.flt_next1 (by assumption) (by assumption)).symm | exact (Wd.flt_next0 (by assumption) (by assumption)).symm)⟩ (by dsimp only; omega) ⟨rfl, (eqi (by omega)), trivial⟩ rfl rfl
  ·
    refine J.cc 6 rfl ?_
    exact J.r1 [0] rfl rfl rfl (congrArg (fun (o : List Wd.Bs) => ([row V 9 1 (o.map encS)] : List Sp)) (by rw [hout]; show _ = Wd.flt (Wd.parts Wd.bl 35 s); rw [List.take_of_length_le (by omega)]))

end Go.Proofs.YtnhfgnnpbipcnaaGreatDoor
