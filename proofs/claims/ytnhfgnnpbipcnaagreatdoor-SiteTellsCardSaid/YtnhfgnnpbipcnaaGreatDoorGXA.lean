/-
  Several texts in one: GX1, GX2.
-/
import Derived.KernelRfl
import Derived.Test.YtnhfgnnpbipcnaaGreatDoorCX5
import Derived.Test.YtnhfgnnpbipcnaaGreatDoorGraphA
import Derived.Test.YtnhfgnnpbipcnaaGreatDoorLkD
namespace Go.Proofs.YtnhfgnnpbipcnaaGreatDoor
open Go Go.LK
set_option linter.unusedSimpArgs false

set_option maxRecDepth 100000 in
theorem s_Index (sv : Value) (l : List Int) (x : Int) (hl : l.length ≤ 100000) : Tri Tryz.prog 98 #[sv, .int .i64 x] [rd sv 1 (l.map encZ)] [] (fun v L' => ∃ k, v = .int .i64 k ∧ Jb.IdxP l x k ∧ L' = []) := by
  refine Tri.en F98 rfl K98 rfl fun w0 => ?_
  refine J.co 8 rfl ?_
  refine O.q (Qt.lenM U53 rfl (Src.ro 0 rfl)) rfl ?_
  refine O.oc 3 rfl ?_
  refine J.lo (X := Nat) (fun k => k ≤ l.length ∧ ∀ j, j < k → ∀ y, l[j]? = some y → y ≠ x) (fun k => [(8, .int .i64 (k : Int))]) (fun k => []) (fun k => l.length - k) 0 [0, 1, 7] [] [] ⟨by omega, fun j hj => absurd hj (Nat.not_lt_zero _)⟩ ⟨(eqi (by omega)), trivial⟩ rfl rfl ?_
  rintro k ⟨hk, hno⟩
  refine J.cc 5 rfl ?_
  refine J.cd rfl (fun p1 => ?_) (fun p1 => ?_)
  ·
    refine J.co 13 rfl ?_
    obtain ⟨e2, he2⟩ := ex_at (l := l) (i := k) (by omega)
    refine O.q (Qt.idxM U53 Z3 rfl (Src.ro 0 rfl) rfl (by omega) (by omega)) rfl ?_
    refine O.q (Qt.le A3 (Src.ro 0 rfl) he2 0 rfl (by omega) rfl) rfl ?_
    refine O.oc 2 rfl ?_
    refine J.cd rfl (fun p3 => ?_) (fun p3 => ?_)
    ·
      refine J.cc 5 rfl ?_
      exact J.r0 rfl rfl ⟨_, rfl, Jb.idx_yes hno he2 (by omega), rfl⟩
    ·
      refine J.co 3 rfl ?_
      refine O.p (Pu.add' rfl rfl (by omega)) rfl ?_
      refine O.oc 2 rfl ?_
      exact J.lq (k + 1) [0, 1, 7] [] [] ⟨by omega, Jb.idx_next hno he2 (by omega)⟩ (by omega) ⟨(eqi (by omega)), trivial⟩ rfl rfl
  ·
    refine J.cc 5 rfl ?_
    exact J.r0 rfl rfl ⟨_, rfl, Jb.idx_no hno (by omega), rfl⟩

set_option maxRecDepth 100000 in
theorem s_Contains (sv : Value) (l : List Int) (x : Int) (hl : l.length ≤ 100000) : Tri Tryz.prog 118 #[sv, .int .i64 x] [rd sv 1 (l.map encZ)] [] (fun v L' => v = .bool (decide (x ∈ l)) ∧ L' = []) := by
  refine Tri.en F118 rfl K118 rfl fun w0 => ?_
  refine J.co 8 rfl ?_
  refine O.l (Lo.ca C98 (s_Index sv l x (by omega)) [] rfl rfl (.ro 0 rfl .nil)) rfl ?_
  rintro _ _ ⟨_, ⟨k1, rfl, hx2, rfl⟩, rfl⟩
  refine O.oc 3 rfl ?_
  exact J.r0 rfl rfl ⟨(by simp only [vOf]; congr 1; rw [decide_eq_decide]; exact Jb.idx_mem hx2), rfl⟩

set_option maxRecDepth 100000 in
theorem g_called (lv : Value) (l : List Sg) (f : Int) (hl : l.length ≤ 1000) (hc : ∀ s ∈ l, s.cl.length ≤ 1000) : Tri Tryz.prog 99 #[lv, .int .i64 f] [rd lv 14 (l.map Sg.cells), ros (l.map Sg.rd)] [] (fun v L' => L' = [row v 3 1 ((Gr.called (gOf l) f).map encZ)]) := by
  have hgl := gOf_len (l := l)
  refine Tri.en F99 rfl K99 rfl fun w0 => ?_
  refine J.co 14 rfl ?_
  refine O.sd 10 rfl (fun p1 => ?_) (fun p1 => ?_)
  ·
    refine O.oc 12 rfl ?_
    refine J.nr 3 1 (([] : List Int).map encZ) rfl ?_
    exact J.r1 [0] rfl rfl rfl (congrArg (fun (z : List Int) => ([row (Value.slice none 0 0) 3 1 (z.map encZ)] : List Sp)) (show ([] : List Int) = Gr.called (gOf l) f from (Gr.called_out (by omega)).symm))
  ·
    refine O.oo 2 rfl ?_
    refine O.gq (t := 10) rfl rfl rfl rfl (Qt.lenM U23 rfl (Src.ro 0 rfl)) rfl ?_
    refine O.oc 3 rfl ?_
    refine J.cd rfl (fun p2 => ?_) (fun p2 => ?_)
    ·
      refine J.cc 5 rfl ?_
      refine J.nr 3 1 (([] : List Int).map encZ) rfl ?_
      exact J.r1 [0] rfl rfl rfl (congrArg (fun (z : List Int) => ([row (Value.slice none 0 0) 3 1 (z.map encZ)] : List Sp)) (show ([] : List Int) = Gr.called (gOf l) f from (Gr.called_out (by omega)).symm))
    ·
      refine J.cc 3 rfl ?_
      obtain ⟨e3, he3⟩ := ex_at (l := l) (i := (f).toNat) (by omega)
      refine J.ros 1 rfl (A := rd e3.cv 4 (e3.cl.map Cl.cells)) (List.mem_map.2 ⟨e3, List.mem_of_getElem? he3, rfl⟩) ?_
      have hcl := hc _ (List.mem_of_getElem? he3)
      have hcm : (e3.cl.map Cl.to).length = e3.cl.length := List.length_map _
      refine J.co 3 rfl ?_
      refine O.q (Qt.idxM U23 Z47 rfl (Src.ro 0 rfl) rfl (by omega) (by omega)) rfl ?_
      refine O.oo 1 rfl ?_
      refine O.q (Qt.le A45 (Src.ro 0 rfl) he3 13 rfl (by omega) rfl) rfl ?_
      refine O.q (Qt.lenM U45 rfl (Src.ro 2 rfl)) rfl ?_
      refine O.oc 3 rfl ?_
      refine J.nilRow 3 1 ?_
      refine J.lo (X := Nat × Value × List Int) (fun (k, V, o) => k ≤ e3.cl.length ∧ o = Gr.calledK l.length (e3.cl.map Cl.to) k ∧ o.length ≤ k) (fun (k, V, o) => [(5, V), (23, .int .i64 (k : Int))]) (fun (k, V, o) => [row V 3 1 (o.map encZ)]) (fun (k, V, o) => e3.cl.length - k) ⟨0, Value.slice none 0 0, []⟩ [0, 4, 21, 22] [0] [] ⟨by omega, rfl, by simp⟩ ⟨rfl, (eqi (by omega)), trivial⟩ rfl rfl ?_
      rintro ⟨k, V, o⟩ ⟨hk, hst, hlen⟩
      refine J.cc 5 rfl ?_
      refine J.cd rfl (fun p4 => ?_) (fun p4 => ?_)
      ·
        refine J.co 5 rfl ?_
        obtain ⟨e5, he5⟩ := ex_at (l := e3.cl) (i := k) (by omega)
        refine O.q (Qt.idxM U45 Z50 rfl (Src.ro 2 rfl) rfl (by omega) (by omega)) rfl ?_
        refine O.q (Qt.lea A50 Z50 (Src.ro 2 rfl) he5 0 rfl (by omega) rfl) rfl ?_
        refine O.l (Lo.al Y50 rfl) rfl ?_
        rintro _ _ ⟨g6, rfl, rfl⟩
        refine O.l0 (Lo.st 0 Z50 rfl rfl rfl rfl rfl rfl rfl) ?_
        rintro _ _ rfl
        refine O.oo 4 rfl ?_
        refine O.q (Qt.lv 0 A3 rfl rfl rfl) rfl ?_
        refine O.oo 2 rfl ?_
        refine O.sd 30 rfl (fun p7 => ?_) (fun p7 => ?_)
        ·
          refine O.oo 1 rfl ?_
          refine O.gq (t := 30) rfl rfl rfl rfl (Qt.lv 0 A3 rfl rfl rfl) rfl ?_
          refine O.oo 1 rfl ?_
          refine O.gq (t := 30) rfl rfl rfl rfl (Qt.lenM U23 rfl (Src.ro 0 rfl)) rfl ?_
          refine O.oo 3 rfl ?_
          refine O.sd 37 rfl (fun p8 => ?_) (fun p8 => ?_)
          ·
            refine O.oo 2 rfl ?_
            refine O.gq (t := 37) rfl rfl rfl rfl (Qt.lv 0 A3 rfl rfl rfl) rfl ?_
            refine O.gl (t := 37) rfl rfl rfl rfl (Lo.ca C118 (s_Contains V o e5.to (by omega)) [] rfl rfl (.of 1 row_rd rfl rfl .nil)) rfl ?_
            rintro _ _ ⟨_, ⟨rfl, rfl⟩, rfl⟩
            refine O.oc 3 rfl ?_
            refine J.cond rfl (fun h10 => ?_) (fun h10 => ?_)
            ·
              have h11 : (decide (e5.to ∈ o)) = false := not_flip h10
              have p12 := of_decide_eq_false h11
              refine J.co 3 rfl ?_
              refine O.q (Qt.lv 0 A3 rfl rfl rfl) rfl ?_
              refine O.l (Lo.bm encZ [e5.to] U53 Z3 Y3 rfl rfl rfl (by kernel_rfl) rfl rfl) rfl ?_
              rintro V13 _ rfl
              refine O.l (Lo.am 2 N53 info3 rfl rfl rfl rfl rfl (Src.row 0 rfl) encZ.one (by first | omega | (simp only [List.length_append, List.length_cons, List.length_nil]; omega)) (by first | omega | (simp only [List.length_append, List.length_cons, List.length_nil]; omega))) rfl ?_
              rintro V14 _ rfl
              refine O.oo 4 rfl ?_
              refine O.p (Pu.add' rfl rfl (by omega)) rfl ?_
              refine O.oc 2 rfl ?_
              exact J.lq ⟨k + 1, V14, o ++ ([e5.to])⟩ [0, 4, 21, 22] [2] [] ⟨by omega, (by rw [hst]; first | exact (Gr.calledK_yes (to_at he5) (by omega) (by omega) (by rw [← hst]; assumption)).symm | exact (Gr.calledK_no (to_at he5) (fun h_ => by first | (have := h_.1; omega) | (have := h_.2.1; omega) | (rw [← hst] at h_; exact h_.2.2 (by assumption)))).symm), (by first | omega | (simp only [List.length_append, List.length_cons, List.length_nil]; omega))⟩ (by dsimp only; omega) ⟨rfl, (eqi (by omega)), trivial⟩ rfl rfl
            ·
              have h15 : (decide (e5.to ∈ o)) = true := not_flip h10
              have p16 := of_decide_eq_true h15
              refine J.co 3 rfl ?_
              refine O.p (Pu.add' rfl rfl (by omega)) rfl ?_
              refine O.oc 2 rfl ?_
              exact J.lq ⟨k + 1, V, o⟩ [0, 4, 21, 22] [1] [] ⟨by omega, (by rw [hst]; first | exact (Gr.calledK_yes (to_at he5) (by omega) (by omega) (by rw [← hst]; assumption)).symm | exact (Gr.calledK_no (to_at he5) (fun h_ => by first | (have := h_.1; omega) | (have := h_.2.1; omega) | (rw [← hst] at h_; exact h_.2.2 (by assumption)))).symm), (by omega)⟩ (by dsimp only; omega) ⟨rfl, (eqi (by omega)), trivial⟩ rfl rfl
          ·
            refine O.oo 11 rfl ?_
            refine O.p (Pu.add' rfl rfl (by omega)) rfl ?_
            refine O.oc 2 rfl ?_
            exact J.lq ⟨k + 1, V, o⟩ [0, 4, 21, 22] [1] [] ⟨by omega, (by rw [hst]; first | exact (Gr.calledK_yes (to_at he5) (by omega) (by omega) (by rw [← hst]; assumption)).symm | exact (Gr.calledK_no (to_at he5) (fun h_ => by first | (have := h_.1; omega) | (have := h_.2.1; omega) | (rw [← hst] at h_; exact h_.2.2 (by assumption)))).symm), (by omega)⟩ (by dsimp only; omega) ⟨rfl, (eqi (by omega)), trivial⟩ rfl rfl
        ·
          refine O.oo 18 rfl ?_
          refine O.p (Pu.add' rfl rfl (by omega)) rfl ?_
          refine O.oc 2 rfl ?_
          exact J.lq ⟨k + 1, V, o⟩ [0, 4, 21, 22] [1] [] ⟨by omega, (by rw [hst]; first | exact (Gr.calledK_yes (to_at he5) (by omega) (by omega) (by rw [← hst]; assumption)).symm | exact (Gr.calledK_no (to_at he5) (fun h_ => by first | (have := h_.1; omega) | (have := h_.2.1; omega) | (rw [← hst] at h_; exact h_.2.2 (by assumption)))).symm), (by omega)⟩ (by dsimp only; omega) ⟨rfl, (eqi (by omega)), trivial⟩ rfl rfl
      ·
        refine J.cc 6 rfl ?_
        exact J.r1 [0] rfl rfl rfl (congrArg (fun (z : List Int) => ([row V 3 1 (z.map encZ)] : List Sp)) (show o = Gr.called (gOf l) f from (by rw [hst]; have h_ := Gr.called_in (g := (gOf l)) (k := k) (cl := (e3.cl.map Cl.to)) (f := f) (by omega) (by omega) (gOf_at he3) (by omega); rw [hgl] at h_; exact h_)))

set_option maxRecDepth 100000 in
theorem g_waits (lv : Value) (l : List Sg) (hl : l.length ≤ 1000) (hc : ∀ s ∈ l, s.cl.length ≤ 1000) : Tri Tryz.prog 97 #[lv] [rd lv 14 (l.map Sg.cells), ros (l.map Sg.rd)] [] (fun v L' => L' = [row v 3 1 ((Gr.leftL (gOf l) []).map encZ)]) := by
  have hgl := gOf_len (l := l)
  refine Tri.en F97 rfl K97 rfl fun w0 => ?_
  refine J.co 7 rfl ?_
  refine O.q (Qt.lenM U23 rfl (Src.ro 0 rfl)) rfl ?_
  refine O.l (Lo.makeSliceN (z := (0 : Int)) (f := encZ) (m := l.length) (s := 1) (bytes := 8) U53 (fun w => run_typeInfo w (by exact (info3).1)) (by exact (info3).2.2.2) Z3 Y3 rfl rfl (by omega) (by omega) (by decide) rfl rfl (by decide) rfl) rfl ?_
  rintro V1 _ rfl
  refine O.oo 6 rfl ?_
  refine O.q (Qt.lenM U23 rfl (Src.ro 0 rfl)) rfl ?_
  refine O.oc 3 rfl ?_
  refine J.lo (X := Nat × List Int) (fun (k, w) => k ≤ l.length ∧ w = Gr.waitQ (gOf l) k 0) (fun (k, w) => [(12, .int .i64 (k : Int))]) (fun (k, w) => [row V1 3 1 (w.map encZ)]) (fun (k, w) => l.length - k) ⟨0, List.replicate l.length (0 : Int)⟩ [0, 2, 3, 11] [0] [] ⟨by omega, by rw [← hgl]; exact Gr.waitQ_zero⟩ ⟨(eqi (by omega)), trivial⟩ rfl rfl ?_
  rintro ⟨k, w⟩ ⟨hk, hw⟩
  refine J.cc 5 rfl ?_
  refine J.cd rfl (fun p2 => ?_) (fun p2 => ?_)
  ·
    refine J.co 12 rfl ?_
    refine O.l (Lo.ca C99 (g_called lv l (k : Int) hl hc) [] rfl rfl (.ro 0 rfl (.ro 1 rfl .nil))) rfl ?_
    rintro v3 _ ⟨_, rfl, rfl⟩
    refine O.q (Qt.lenM U53 rfl (Src.row 0 rfl)) rfl ?_
    refine O.oc 3 rfl ?_
    refine J.lo (X := Nat × List Int) (fun (q, w2) => q ≤ (Gr.called (gOf l) (k : Int)).length ∧ w2 = Gr.waitQ (gOf l) k q) (fun (q, w2) => [(19, .int .i64 (q : Int))]) (fun (q, w2) => [row V1 3 1 (w2.map encZ)]) (fun (q, w2) => (Gr.called (gOf l) (k : Int)).length - q) ⟨0, w⟩ [0, 2, 3, 11, 12, 17, 18] [1] [0] ⟨by omega, hw⟩ ⟨(eqi (by omega)), trivial⟩ rfl rfl ?_
    rintro ⟨q, w2⟩ ⟨hq, hw2⟩
    refine J.cc 5 rfl ?_
    refine J.cd rfl (fun p4 => ?_) (fun p4 => ?_)
    ·
      refine J.co 5 rfl ?_
      obtain ⟨e5, he5⟩ := ex_at (l := (Gr.called (gOf l) (k : Int))) (i := q) (by omega)
      refine O.q (Qt.idxM U53 Z3 rfl (Src.row 1 rfl) rfl (by omega) (by omega)) rfl ?_
      refine O.q (Qt.le A3 (Src.row 1 rfl) he5 0 rfl (by omega) rfl) rfl ?_
      refine O.oc 2 rfl ?_
      obtain ⟨jt, hjt, hjl⟩ := Gr.called_bnd he5
      have hwl : w2.length = l.length := by rw [hw2, Gr.waitQ_len, hgl]
      obtain ⟨e6, he6⟩ := ex_at (l := w2) (i := (e5).toNat) (by omega)
      refine J.co 3 rfl ?_
      refine O.q (Qt.idxM U53 Z3 rfl (Src.row 0 rfl) rfl (by omega) (by omega)) rfl ?_
      refine O.q (Qt.le A3 (Src.row 0 rfl) he6 0 rfl (by omega) rfl) rfl ?_
      refine O.p (Pu.add' rfl rfl (by first | omega | (have h_ := Gr.waitQ_bnd (g := (gOf l)) (i := k) (q := q) (by rw [← hw2]; assumption); omega) | (have h_ := Gr.called_len (g := (gOf l)) (f := (k : Int)); omega))) rfl ?_
      refine O.q (Qt.idxM U53 Z3 rfl (Src.row 0 rfl) rfl (by omega) (by omega)) rfl ?_
      refine O.l0 (Lo.storeM 0 (j := (e5).toNat) (off := 0) (vs := [.int .i64 (e6 + 1)]) (e := [.int .i64 e6]) (e6 + 1) rfl rfl rfl rfl (by omega) he6 rfl Z3 rfl rfl rfl rfl rfl) ?_
      rintro _ _ rfl
      have hs7 : (w2.set (e5).toNat (e6 + 1))[(e5).toNat]? = some (e6 + 1) := List.getElem?_set_self (List.getElem?_eq_some_iff.1 he6).1
      refine O.oo 3 rfl ?_
      refine O.p (Pu.add' rfl rfl (by first | omega | (have h_ := Gr.waitQ_bnd (g := (gOf l)) (i := k) (q := q) (by rw [← hw2]; assumption); omega) | (have h_ := Gr.called_len (g := (gOf l)) (f := (k : Int)); omega))) rfl ?_
      refine O.oc 2 rfl ?_
      exact J.lq ⟨q + 1, w2.set (e5).toNat (e6 + 1)⟩ [0, 2, 3, 11, 12, 17, 18] [0] [1] ⟨by omega, (by rw [hw2]; exact Gr.waitQ_next he5 (by rw [← hw2]; exact he6))⟩ (by dsimp only; omega) ⟨(eqi (by omega)), trivial⟩ rfl rfl
    ·
      refine J.co 3 rfl ?_
      refine O.p (Pu.add' rfl rfl (by omega)) rfl ?_
      refine O.oc 2 rfl ?_
      exact J.lq ⟨k + 1, w2⟩ [0, 2, 3, 11] [0] [] ⟨by omega, (by rw [hw2]; exact Gr.waitQ_row (by omega))⟩ (by dsimp only; omega) ⟨(eqi (by omega)), trivial⟩ rfl rfl
  ·
    refine J.cc 6 rfl ?_
    exact J.r1 [0] rfl rfl rfl (congrArg (fun (z : List Int) => ([row V1 3 1 (z.map encZ)] : List Sp)) (show w = Gr.leftL (gOf l) [] from (by rw [hw, show k = (gOf l).length from by omega]; exact Gr.waitQ_all)))

set_option maxRecDepth 100000 in
set_option maxHeartbeats 1000000 in
theorem g_Order (lv : Value) (l : List Sg) (hl : l.length ≤ 1000) (hc : ∀ s ∈ l, s.cl.length ≤ 1000) : Tri Tryz.prog 60 #[lv] [rd lv 14 (l.map Sg.cells), ros (l.map Sg.rd)] [] (fun v L' => ∃ V', v = .tuple #[V', .int .i64 (Gr.loops (gOf l))] ∧ L' = [row V' 3 1 ((Gr.ordL (gOf l)).map encZ)]) := by
  have hgl := gOf_len (l := l)
  refine Tri.en F60 rfl K60 rfl fun w0 => ?_
  refine J.co 12 rfl ?_
  refine O.l (Lo.ca C97 (g_waits lv l hl hc) [] rfl rfl (.ro 0 rfl (.ro 1 rfl .nil))) rfl ?_
  rintro v1 _ ⟨_, rfl, rfl⟩
  refine O.oo 6 rfl ?_
  refine O.q (Qt.lenM U23 rfl (Src.ro 0 rfl)) rfl ?_
  refine O.oc 3 rfl ?_
  refine J.nilRow 3 1 ?_
  refine J.lo (X := Nat × Value × List Int × List Nat × List Int) (fun (k, V, u, o, w) => k ≤ l.length ∧ Gr.ordN (gOf l) k = some o ∧ u = o.map (fun (n : Nat) => (n : Int)) ∧ w = Gr.leftL (gOf l) o) (fun (k, V, u, o, w) => [(4, V), (13, .int .i64 (k : Int))]) (fun (k, V, u, o, w) => [row V 3 1 (u.map encZ), row v1 3 1 (w.map encZ)]) (fun (k, V, u, o, w) => l.length - k) ⟨0, Value.slice none 0 0, [], [], Gr.leftL (gOf l) []⟩ [0, 5, 12] [0, 1] [] ⟨by omega, rfl, rfl, rfl⟩ ⟨rfl, (eqi (by omega)), trivial⟩ rfl rfl ?_
  rintro ⟨k, V, u, o, w⟩ ⟨hk, ho, hu, hw⟩
  refine J.cc 5 rfl ?_
  refine J.cd rfl (fun p2 => ?_) (fun p2 => ?_)
  ·
    refine J.co 6 rfl ?_
    refine O.l (Lo.ca C98 (s_Index v1 w 0 (by first | omega | (rw [hw, Gr.leftL_len]; omega) | (rw [hu, List.length_map, Gr.ord_len ho]; omega))) [] rfl rfl (.of 1 row_rd rfl rfl .nil)) rfl ?_
    rintro _ _ ⟨_, ⟨k3, rfl, hx4, rfl⟩, rfl⟩
    refine O.oc 8 rfl ?_
    refine J.cd rfl (fun p6 => ?_) (fun p6 => ?_)
    ·
      refine J.cc 5 rfl ?_
      refine J.nr 3 1 (([] : List Int).map encZ) rfl ?_
      exact J.rn [_, _] [0] rfl ⟨rfl, rfl, trivial⟩ rfl ⟨Value.slice none 0 0, (by rw [Gr.loops_no (Gr.ord_stop ho (Gr.idx_none (by rw [← hw]; exact hx4) (by omega)) (by omega))]; rfl), (congrArg (fun (z : List Int) => ([row (Value.slice none 0 0) 3 1 (z.map encZ)] : List Sp)) (Gr.ordL_no (Gr.ord_stop ho (Gr.idx_none (by rw [← hw]; exact hx4) (by omega)) (by omega))).symm)⟩
    ·
      refine J.cc 2 rfl ?_
      obtain ⟨p, rfl, hp⟩ := Gr.idx_some (by rw [← hw]; exact hx4) (by omega)
      have hpl := (Gr.pick_some hp).1
      have hwl0 : w.length = l.length := by rw [hw, Gr.leftL_len, hgl]
      refine J.co 3 rfl ?_
      obtain ⟨e7, he7⟩ := ex_at (l := w) (i := p) (by omega)
      refine O.q (Qt.idxM U53 Z3 rfl (Src.row 1 rfl) rfl (by omega) (by omega)) rfl ?_
      refine O.l0 (Lo.storeM 1 (j := p) (off := 0) (vs := [.int .i64 (-1)]) (e := [.int .i64 e7]) (-1) rfl rfl rfl rfl (by omega) he7 rfl Z3 rfl rfl rfl rfl rfl) ?_
      rintro _ _ rfl
      have hs8 : (w.set p (-1))[p]? = some (-1) := List.getElem?_set_self (List.getElem?_eq_some_iff.1 he7).1
      refine O.oo 6 rfl ?_
      refine O.l (Lo.ca C99 (g_called lv l (p : Int) hl hc) [] rfl rfl (.ro 0 rfl (.ro 1 rfl .nil))) rfl ?_
      rintro v9 _ ⟨_, rfl, rfl⟩
      refine O.q (Qt.lenM U53 rfl (Src.row 0 rfl)) rfl ?_
      refine O.oc 3 rfl ?_
      refine J.lo (X := Nat × List Int) (fun (q, w2) => q ≤ (Gr.called (gOf l) (p : Int)).length ∧ w2 = Gr.leftQ (gOf l) o p q) (fun (q, w2) => [(26, .int .i64 (q : Int))]) (fun (q, w2) => [row v1 3 1 (w2.map encZ)]) (fun (q, w2) => (Gr.called (gOf l) (p : Int)).length - q) ⟨0, w.set p (-1)⟩ [0, 4, 5, 6, 12, 13, 24, 25] [2] [1, 0] ⟨by omega, (by rw [hw]; exact Gr.leftQ_zero)⟩ ⟨(eqi (by omega)), trivial⟩ rfl rfl ?_
      rintro ⟨q, w2⟩ ⟨hq, hw2⟩
      refine J.cc 5 rfl ?_
      refine J.cd rfl (fun p10 => ?_) (fun p10 => ?_)
      ·
        refine J.co 5 rfl ?_
        obtain ⟨e11, he11⟩ := ex_at (l := (Gr.called (gOf l) (p : Int))) (i := q) (by omega)
        refine O.q (Qt.idxM U53 Z3 rfl (Src.row 2 rfl) rfl (by omega) (by omega)) rfl ?_
        refine O.q (Qt.le A3 (Src.row 2 rfl) he11 0 rfl (by omega) rfl) rfl ?_
        refine O.oc 2 rfl ?_
        obtain ⟨jt, hjt, hjl⟩ := Gr.called_bnd he11
        have hwl : w2.length = l.length := by rw [hw2, Gr.leftQ_len, hgl]
        obtain ⟨e12, he12⟩ := ex_at (l := w2) (i := (e11).toNat) (by omega)
        refine J.co 3 rfl ?_
        refine O.q (Qt.idxM U53 Z3 rfl (Src.row 0 rfl) rfl (by omega) (by omega)) rfl ?_
        refine O.q (Qt.le A3 (Src.row 0 rfl) he12 0 rfl (by omega) rfl) rfl ?_
        refine O.p (Pu.sub' rfl rfl (by first | omega | (have h_ := Gr.leftQ_bnd (g := (gOf l)) (o := o) (p := p) (q := q) (by rw [← hw2]; assumption); omega) | (have h_ := Gr.called_len (g := (gOf l)) (f := (p : Int)); omega))) rfl ?_
        refine O.q (Qt.idxM U53 Z3 rfl (Src.row 0 rfl) rfl (by omega) (by omega)) rfl ?_
        refine O.l0 (Lo.storeM 0 (j := (e11).toNat) (off := 0) (vs := [.int .i64 (e12 - 1)]) (e := [.int .i64 e12]) (e12 - 1) rfl rfl rfl rfl (by omega) he12 rfl Z3 rfl rfl rfl rfl rfl) ?_
        rintro _ _ rfl
        have hs13 : (w2.set (e11).toNat (e12 - 1))[(e11).toNat]? = some (e12 - 1) := List.getElem?_set_self (List.getElem?_eq_some_iff.1 he12).1
        refine O.oo 3 rfl ?_
        refine O.p (Pu.add' rfl rfl (by first | omega | (have h_ := Gr.leftQ_bnd (g := (gOf l)) (o := o) (p := p) (q := q) (by rw [← hw2]; assumption); omega) | (have h_ := Gr.called_len (g := (gOf l)) (f := (p : Int)); omega))) rfl ?_
        refine O.oc 2 rfl ?_
        exact J.lq ⟨q + 1, w2.set (e11).toNat (e12 - 1)⟩ [0, 4, 5, 6, 12, 13, 24, 25] [0] [1, 2] ⟨by omega, (by rw [hw2]; exact Gr.leftQ_next ho hp he11 (by rw [← hw2]; exact he12))⟩ (by dsimp only; omega) ⟨(eqi (by omega)), trivial⟩ rfl rfl
      ·
        refine J.co 4 rfl ?_
        refine O.l (Lo.bm encZ [(p : Int)] U53 Z3 Y3 rfl rfl rfl (by kernel_rfl) rfl rfl) rfl ?_
        rintro V14 _ rfl
        refine O.l (Lo.am 2 N53 info3 rfl rfl rfl rfl rfl (Src.row 0 rfl) encZ.one (by first | omega | (simp only [List.length_set]; omega) | (rw [hu, List.length_map, Gr.ord_len ho]; simp only [List.length_cons, List.length_nil]; omega)) (by first | omega | (simp only [List.length_set]; omega) | (rw [hu, List.length_map, Gr.ord_len ho]; simp only [List.length_cons, List.length_nil]; omega))) rfl ?_
        rintro V15 _ rfl
        refine O.oo 4 rfl ?_
        refine O.p (Pu.add' rfl rfl (by omega)) rfl ?_
        refine O.oc 2 rfl ?_
        exact J.lq ⟨k + 1, V15, u ++ ([(p : Int)]), o ++ [p], w2⟩ [0, 5, 12] [2, 1] [] ⟨by omega, Gr.ord_more ho hp, (by rw [hu]; simp), (by rw [hw2]; exact Gr.leftQ_end hp (by omega))⟩ (by dsimp only; omega) ⟨rfl, (eqi (by omega)), trivial⟩ rfl rfl
  ·
    refine J.cc 7 rfl ?_
    exact J.rn [_, _] [0] rfl ⟨rfl, rfl, trivial⟩ rfl ⟨V, (by rw [Gr.loops_yes (show Gr.ordN (gOf l) (gOf l).length = some o from (by rw [show (gOf l).length = k from by omega]; exact ho))]; rfl), (congrArg (fun (z : List Int) => ([row V 3 1 (z.map encZ)] : List Sp)) (show u = Gr.ordL (gOf l) from (by rw [Gr.ordL_yes (show Gr.ordN (gOf l) (gOf l).length = some o from (by rw [show (gOf l).length = k from by omega]; exact ho)), hu])))⟩

set_option maxRecDepth 100000 in
theorem g_Check (lv : Value) (l : List Sg) (hl : l.length ≤ 1000) (hc : ∀ s ∈ l, s.cl.length ≤ 1000) : Tri Tryz.prog 28 #[lv] [rd lv 14 (l.map Sg.cells), ros (l.map Sg.rd)] [] (fun v L' => v = .int .i64 (Gr.loops (gOf l)) ∧ L' = []) := by
  have hgl := gOf_len (l := l)
  refine Tri.en F28 rfl K28 rfl fun w0 => ?_
  refine J.co 7 rfl ?_
  refine O.l (Lo.ca C60 (g_Order lv l hl hc) [] rfl rfl (.ro 0 rfl (.ro 1 rfl .nil))) rfl ?_
  rintro _ _ ⟨_, ⟨V1, rfl, rfl⟩, rfl⟩
  refine O.oc 11 rfl ?_
  exact J.r0 rfl rfl ⟨rfl, rfl⟩

end Go.Proofs.YtnhfgnnpbipcnaaGreatDoor

namespace Go.Proofs.YtnhfgnnpbipcnaaGreatDoor
open Go Go.LK
set_option linter.unusedSimpArgs false

set_option maxRecDepth 100000 in
theorem r29_Calls (lv : Value) (l : List Sg) (a b : Int) (hl : l.length ≤ 1000) (hc : ∀ s ∈ l, s.cl.length ≤ 1000) : Tri Tryz.prog 100 #[lv, .int .i64 a, .int .i64 b] [rd lv 14 (l.map Sg.cells), ros (l.map Sg.rd)] [] (fun v L' => v = .bool (Gr.calls (gOf l) a b) ∧ L' = []) := by
  have hgl := gOf_len (l := l)
  refine Tri.en F100 rfl K100 rfl fun w0 => ?_
  refine J.co 10 rfl ?_
  refine O.sd 10 rfl (fun p1 => ?_) (fun p1 => ?_)
  ·
    refine O.oc 21 rfl ?_
    exact J.r0 rfl rfl ⟨(by rw [Gr.calls_no (g := (gOf l)) (by omega)]; rfl), rfl⟩
  ·
    refine O.oo 2 rfl ?_
    refine O.gq (t := 10) rfl rfl rfl rfl (Qt.lenM U23 rfl (Src.ro 0 rfl)) rfl ?_
    refine O.oo 3 rfl ?_
    refine O.sd 16 rfl (fun p2 => ?_) (fun p2 => ?_)
    ·
      refine O.oc 15 rfl ?_
      exact J.r0 rfl rfl ⟨(by rw [Gr.calls_no (g := (gOf l)) (by omega)]; rfl), rfl⟩
    ·
      refine O.oo 4 rfl ?_
      refine O.sd 20 rfl (fun p3 => ?_) (fun p3 => ?_)
      ·
        refine O.oc 11 rfl ?_
        exact J.r0 rfl rfl ⟨(by rw [Gr.calls_no (g := (gOf l)) (by omega)]; rfl), rfl⟩
      ·
        refine O.oo 2 rfl ?_
        refine O.gq (t := 20) rfl rfl rfl rfl (Qt.lenM U23 rfl (Src.ro 0 rfl)) rfl ?_
        refine O.oc 3 rfl ?_
        refine J.cd rfl (fun p4 => ?_) (fun p4 => ?_)
        ·
          refine J.cc 4 rfl ?_
          exact J.r0 rfl rfl ⟨(by rw [Gr.calls_no (g := (gOf l)) (by omega)]; rfl), rfl⟩
        ·
          refine J.cc 3 rfl ?_
          obtain ⟨e5, he5⟩ := ex_at (l := l) (i := (a).toNat) (by omega)
          refine J.ros 1 rfl (A := rd e5.cv 4 (e5.cl.map Cl.cells)) (List.mem_map.2 ⟨e5, List.mem_of_getElem? he5, rfl⟩) ?_
          have hcl := hc _ (List.mem_of_getElem? he5)
          have hcm : (e5.cl.map Cl.to).length = e5.cl.length := List.length_map _
          refine J.cc 4 rfl ?_
          refine J.lo (X := Nat) (fun k => k ≤ e5.cl.length ∧ b ∉ (e5.cl.map Cl.to).take k) (fun k => [(7, .int .i64 (k : Int))]) (fun k => []) (fun k => e5.cl.length - k) 0 [0, 1, 2] [] [] ⟨by omega, by simp⟩ ⟨(eqi (by omega)), trivial⟩ rfl rfl ?_
          rintro k ⟨hk, hno⟩
          refine J.co 6 rfl ?_
          refine O.q (Qt.idxM U23 Z47 rfl (Src.ro 0 rfl) rfl (by omega) (by omega)) rfl ?_
          refine O.oo 1 rfl ?_
          refine O.q (Qt.le A45 (Src.ro 0 rfl) he5 13 rfl (by omega) rfl) rfl ?_
          refine O.q (Qt.lenM U45 rfl (Src.ro 2 rfl)) rfl ?_
          refine O.oc 2 rfl ?_
          refine J.cd rfl (fun p6 => ?_) (fun p6 => ?_)
          ·
            refine J.co 7 rfl ?_
            refine O.q (Qt.idxM U23 Z47 rfl (Src.ro 0 rfl) rfl (by omega) (by omega)) rfl ?_
            refine O.oo 1 rfl ?_
            refine O.q (Qt.le A45 (Src.ro 0 rfl) he5 13 rfl (by omega) rfl) rfl ?_
            refine O.oo 1 rfl ?_
            obtain ⟨e7, he7⟩ := ex_at (l := e5.cl) (i := k) (by omega)
            refine O.q (Qt.idxM U45 Z50 rfl (Src.ro 2 rfl) rfl (by omega) (by omega)) rfl ?_
            refine O.oo 1 rfl ?_
            refine O.q (Qt.le A3 (Src.ro 2 rfl) he7 0 rfl (by omega) rfl) rfl ?_
            refine O.oc 3 rfl ?_
            refine J.cd rfl (fun p8 => ?_) (fun p8 => ?_)
            ·
              refine J.cc 4 rfl ?_
              exact J.r0 rfl rfl ⟨(by rw [Gr.calls_in (g := (gOf l)) (a := a) (b := b) (by omega) (gOf_at he5), decide_eq_true (Jb.has_hit (to_at he7) (by assumption))]; rfl), rfl⟩
            ·
              refine J.co 4 rfl ?_
              refine O.p (Pu.add' rfl rfl (by omega)) rfl ?_
              refine O.oc 2 rfl ?_
              exact J.lq (k + 1) [0, 1, 2] [] [] ⟨by omega, Jb.has_next hno (to_at he7) (by assumption)⟩ (by omega) ⟨(eqi (by omega)), trivial⟩ rfl rfl
          ·
            refine J.cc 5 rfl ?_
            exact J.r0 rfl rfl ⟨(by rw [Gr.calls_in (g := (gOf l)) (a := a) (b := b) (by omega) (gOf_at he5), decide_eq_false (Jb.has_miss hno (by omega))]; rfl), rfl⟩

set_option maxRecDepth 100000 in
theorem r29_has (lv : Value) (l : List Int) (n : Int) (hl : l.length ≤ 100000) : Tri Tryz.prog 64 #[lv, .int .i64 n] [rd lv 1 (l.map encZ)] [] (fun v L' => v = .bool (decide (n ∈ l)) ∧ L' = []) := by
  refine Tri.en F64 rfl K64 rfl fun w0 => ?_
  refine J.cc 10 rfl ?_
  refine J.lo (X := Nat) (fun k => k ≤ l.length ∧ n ∉ l.take k) (fun k => [(5, .int .i64 (k : Int))]) (fun k => []) (fun k => l.length - k) 0 [0, 1] [] [] ⟨by omega, by simp⟩ ⟨(eqi (by omega)), trivial⟩ rfl rfl ?_
  rintro k ⟨hk, hno⟩
  refine J.co 5 rfl ?_
  refine O.q (Qt.lenM U53 rfl (Src.ro 0 rfl)) rfl ?_
  refine O.oc 2 rfl ?_
  refine J.cd rfl (fun p1 => ?_) (fun p1 => ?_)
  ·
    refine J.co 7 rfl ?_
    obtain ⟨e2, he2⟩ := ex_at (l := l) (i := k) (by omega)
    refine O.q (Qt.idxM U53 Z3 rfl (Src.ro 0 rfl) rfl (by omega) (by omega)) rfl ?_
    refine O.q (Qt.le A3 (Src.ro 0 rfl) he2 0 rfl (by omega) rfl) rfl ?_
    refine O.oc 3 rfl ?_
    refine J.cd rfl (fun p3 => ?_) (fun p3 => ?_)
    ·
      refine J.cc 4 rfl ?_
      exact J.r0 rfl rfl ⟨(by simp only [vOf]; rw [decide_eq_true (Jb.has_hit he2 (by assumption))]), rfl⟩
    ·
      refine J.co 4 rfl ?_
      refine O.p (Pu.add' rfl rfl (by omega)) rfl ?_
      refine O.oc 2 rfl ?_
      exact J.lq (k + 1) [0, 1] [] [] ⟨by omega, Jb.has_next hno he2 (by assumption)⟩ (by omega) ⟨(eqi (by omega)), trivial⟩ rfl rfl
  ·
    refine J.cc 5 rfl ?_
    exact J.r0 rfl rfl ⟨(by simp only [vOf]; rw [decide_eq_false (Jb.has_miss hno (by omega))]), rfl⟩

set_option maxRecDepth 100000 in
set_option maxHeartbeats 1000000 in
theorem r29_Reach (lv : Value) (l : List Sg) (f : Nat) (hl : l.length ≤ 1000) (hc : ∀ s ∈ l, s.cl.length ≤ 1000) : Tri Tryz.prog 65 #[lv, .int .i64 (f : Int)] [rd lv 14 (l.map Sg.cells), ros (l.map Sg.rd)] [] (fun v L' => L' = [row v 3 1 ((Gr.reachL (gOf l) f).map encZ)]) := by
  have hgl := gOf_len (l := l)
  refine Tri.en F65 rfl K65 rfl fun w0 => ?_
  refine J.co 7 rfl ?_
  refine O.q (Qt.lenM U23 rfl (Src.ro 0 rfl)) rfl ?_
  refine O.l (Lo.makeSliceN (z := (false : Bool)) (f := encBo) (m := l.length) (s := 1) (bytes := 1) U133 (fun w => run_typeInfo w (by exact (info4).1)) (by exact (info4).2.2.2) Z4 Y4 rfl rfl (by omega) (by omega) (by decide) rfl rfl (by decide) rfl) rfl ?_
  rintro V1 _ rfl
  refine O.oc 8 rfl ?_
  refine J.lo (X := Nat × List Bool) (fun (r, m) => r ≤ l.length ∧ Gr.RO (gOf l) f m r) (fun (r, m) => [(6, .int .i64 (r : Int))]) (fun (r, m) => [row V1 4 1 (m.map encBo)]) (fun (r, m) => l.length - r) ⟨0, List.replicate l.length (false : Bool)⟩ [0, 1, 4, 5] [0] [] ⟨by omega, by rw [← hgl]; exact Gr.RO.zero⟩ ⟨(eqi (by omega)), trivial⟩ rfl rfl ?_
  rintro ⟨r, m⟩ ⟨hr, h0⟩
  refine J.co 5 rfl ?_
  refine O.q (Qt.lenM U23 rfl (Src.ro 0 rfl)) rfl ?_
  refine O.oc 2 rfl ?_
  refine J.cd rfl (fun p2 => ?_) (fun p2 => ?_)
  ·
    refine J.cc 8 rfl ?_
    refine J.lo (X := Nat × List Bool) (fun (t, m2) => t ≤ l.length ∧ Gr.RI (gOf l) f m m2 t 0) (fun (t, m2) => [(7, .int .i64 (t : Int))]) (fun (t, m2) => [row V1 4 1 (m2.map encBo)]) (fun (t, m2) => l.length - t) ⟨0, m⟩ [0, 1, 4, 5, 6] [0] [] ⟨by omega, h0.begin⟩ ⟨(eqi (by omega)), trivial⟩ rfl rfl ?_
    rintro ⟨t, m2⟩ ⟨ht, hm⟩
    refine J.co 5 rfl ?_
    refine O.q (Qt.lenM U23 rfl (Src.ro 0 rfl)) rfl ?_
    refine O.oc 2 rfl ?_
    refine J.cd rfl (fun p3 => ?_) (fun p3 => ?_)
    ·
      refine J.cc 8 rfl ?_
      refine J.lo (X := Nat × List Bool) (fun (k, m3) => k ≤ l.length ∧ Gr.RI (gOf l) f m m3 t k) (fun (k, m3) => [(8, .int .i64 (k : Int))]) (fun (k, m3) => [row V1 4 1 (m3.map encBo)]) (fun (k, m3) => l.length - k) ⟨0, m2⟩ [0, 1, 4, 5, 6, 7] [0] [] ⟨by omega, hm⟩ ⟨(eqi (by omega)), trivial⟩ rfl rfl ?_
      rintro ⟨k, m3⟩ ⟨hk, hi⟩
      refine J.co 5 rfl ?_
      refine O.q (Qt.lenM U23 rfl (Src.ro 0 rfl)) rfl ?_
      refine O.oc 2 rfl ?_
      refine J.cd rfl (fun p4 => ?_) (fun p4 => ?_)
      ·
        refine J.cc 4 rfl ?_
        obtain ⟨e5, he5⟩ := ex_at (l := m3) (i := k) (by first | omega | (have h_ := hi.len; omega) | (have h_ := h0.len; omega) | (simp only [List.length_append, List.length_cons, List.length_nil]; omega))
        refine J.co 4 rfl ?_
        refine O.l (Lo.ca C100 (r29_Calls lv l (k : Int) (t : Int) hl hc) [] rfl rfl (.ro 0 rfl (.ro 1 rfl .nil))) rfl ?_
        rintro _ _ ⟨_, ⟨rfl, rfl⟩, rfl⟩
        refine O.oo 1 rfl ?_
        refine O.sp 36 rfl (fun h7 => ?_) (fun h7 => ?_)
        ·
          refine O.oo 4 rfl ?_
          refine O.sd 40 rfl (fun p8 => ?_) (fun p8 => ?_)
          ·
            refine O.oo 11 rfl ?_
            obtain ⟨e9, he9⟩ := ex_at (l := m3) (i := t) (by first | omega | (have h_ := hi.len; omega) | (have h_ := h0.len; omega) | (simp only [List.length_append, List.length_cons, List.length_nil]; omega))
            refine O.q (Qt.idxM U133 Z4 rfl (Src.row 0 rfl) rfl (by omega) (by first | omega | (have h_ := hi.len; omega) | (have h_ := h0.len; omega) | (simp only [List.length_append, List.length_cons, List.length_nil]; omega))) rfl ?_
            refine O.l0 (Lo.storeM 0 (j := t) (off := 0) (vs := [.bool true]) (e := [.bool e9]) true rfl rfl rfl rfl (by omega) he9 rfl Z4 rfl rfl rfl rfl rfl) ?_
            rintro _ _ rfl
            have hs10 : (m3.set t true)[t]? = some true := List.getElem?_set_self (List.getElem?_eq_some_iff.1 he9).1
            refine O.oo 4 rfl ?_
            refine O.p (Pu.add' rfl rfl (by omega)) rfl ?_
            refine O.oc 2 rfl ?_
            exact J.lq ⟨k + 1, m3.set t true⟩ [0, 1, 4, 5, 6, 7] [0] [] ⟨by omega, hi.mark (by rw [← Gr.calls_e]; exact h7) (.inl (by omega))⟩ (by dsimp only; omega) ⟨(eqi (by omega)), trivial⟩ rfl rfl
          ·
            refine O.oo 2 rfl ?_
            refine O.gq (t := 40) rfl rfl rfl rfl (Qt.idxM U133 Z4 rfl (Src.row 0 rfl) rfl (by omega) (by first | omega | (have h_ := hi.len; omega) | (have h_ := h0.len; omega) | (simp only [List.length_append, List.length_cons, List.length_nil]; omega))) rfl ?_
            refine O.gq (t := 40) rfl rfl rfl rfl (Qt.le A4 (Src.row 0 rfl) he5 0 rfl (by omega) rfl) rfl ?_
            refine O.oc 3 rfl ?_
            refine J.cond rfl (fun h11 => ?_) (fun h11 => ?_)
            ·
              refine J.co 3 rfl ?_
              obtain ⟨e12, he12⟩ := ex_at (l := m3) (i := t) (by first | omega | (have h_ := hi.len; omega) | (have h_ := h0.len; omega) | (simp only [List.length_append, List.length_cons, List.length_nil]; omega))
              refine O.q (Qt.idxM U133 Z4 rfl (Src.row 0 rfl) rfl (by omega) (by first | omega | (have h_ := hi.len; omega) | (have h_ := h0.len; omega) | (simp only [List.length_append, List.length_cons, List.length_nil]; omega))) rfl ?_
              refine O.l0 (Lo.storeM 0 (j := t) (off := 0) (vs := [.bool true]) (e := [.bool e12]) true rfl rfl rfl rfl (by omega) he12 rfl Z4 rfl rfl rfl rfl rfl) ?_
              rintro _ _ rfl
              have hs13 : (m3.set t true)[t]? = some true := List.getElem?_set_self (List.getElem?_eq_some_iff.1 he12).1
              refine O.oo 4 rfl ?_
              refine O.p (Pu.add' rfl rfl (by omega)) rfl ?_
              refine O.oc 2 rfl ?_
              exact J.lq ⟨k + 1, m3.set t true⟩ [0, 1, 4, 5, 6, 7] [0] [] ⟨by omega, hi.mark (by rw [← Gr.calls_e]; exact h7) (.inr (by show m3[k]? = some true; rw [he5]; exact congrArg some (by assumption)))⟩ (by dsimp only; omega) ⟨(eqi (by omega)), trivial⟩ rfl rfl
            ·
              refine J.co 4 rfl ?_
              refine O.p (Pu.add' rfl rfl (by omega)) rfl ?_
              refine O.oc 2 rfl ?_
              exact J.lq ⟨k + 1, m3⟩ [0, 1, 4, 5, 6, 7] [0] [] ⟨by omega, hi.skip (fun h_ => by rcases h_.2 with h2_ | h2_; (· omega); (· have h3_ : m3[k]? = some true := h2_; rw [he5] at h3_; simp_all))⟩ (by dsimp only; omega) ⟨(eqi (by omega)), trivial⟩ rfl rfl
        ·
          refine O.oo 16 rfl ?_
          refine O.p (Pu.add' rfl rfl (by omega)) rfl ?_
          refine O.oc 2 rfl ?_
          exact J.lq ⟨k + 1, m3⟩ [0, 1, 4, 5, 6, 7] [0] [] ⟨by omega, hi.skip (fun h_ => by have h2_ := h_.1; rw [← Gr.calls_e, h7] at h2_; cases h2_)⟩ (by dsimp only; omega) ⟨(eqi (by omega)), trivial⟩ rfl rfl
      ·
        refine J.co 4 rfl ?_
        refine O.p (Pu.add' rfl rfl (by omega)) rfl ?_
        refine O.oc 2 rfl ?_
        exact J.lq ⟨t + 1, m3⟩ [0, 1, 4, 5, 6] [0] [] ⟨by omega, Gr.RI.row ((show k = (gOf l).length from by omega) ▸ hi)⟩ (by dsimp only; omega) ⟨(eqi (by omega)), trivial⟩ rfl rfl
    ·
      refine J.co 4 rfl ?_
      refine O.p (Pu.add' rfl rfl (by omega)) rfl ?_
      refine O.oc 2 rfl ?_
      exact J.lq ⟨r + 1, m2⟩ [0, 1, 4, 5] [0] [] ⟨by omega, Gr.RI.over ((show t = (gOf l).length from by omega) ▸ hm) h0⟩ (by dsimp only; omega) ⟨(eqi (by omega)), trivial⟩ rfl rfl
  ·
    refine J.cc 11 rfl ?_
    refine J.nilRow 3 1 ?_
    refine J.lo (X := Nat × Value × List Int) (fun (k, V, o) => k ≤ l.length ∧ o = Gr.marked m k ∧ o.length ≤ k) (fun (k, V, o) => [(9, V), (10, .int .i64 (k : Int))]) (fun (k, V, o) => [row V 3 1 (o.map encZ)]) (fun (k, V, o) => l.length - k) ⟨0, Value.slice none 0 0, []⟩ [0, 4, 5] [0] [1] ⟨by omega, rfl, by simp⟩ ⟨rfl, (eqi (by omega)), trivial⟩ rfl rfl ?_
    rintro ⟨k, V, o⟩ ⟨hk, hst, hlen⟩
    refine J.co 5 rfl ?_
    refine O.q (Qt.lenM U23 rfl (Src.ro 0 rfl)) rfl ?_
    refine O.oc 2 rfl ?_
    refine J.cd rfl (fun p14 => ?_) (fun p14 => ?_)
    ·
      refine J.co 7 rfl ?_
      obtain ⟨e15, he15⟩ := ex_at (l := m) (i := k) (by first | omega | (have h_ := hi.len; omega) | (have h_ := h0.len; omega) | (simp only [List.length_append, List.length_cons, List.length_nil]; omega))
      refine O.q (Qt.idxM U133 Z4 rfl (Src.row 1 rfl) rfl (by omega) (by first | omega | (have h_ := hi.len; omega) | (have h_ := h0.len; omega) | (simp only [List.length_append, List.length_cons, List.length_nil]; omega))) rfl ?_
      refine O.q (Qt.le A4 (Src.row 1 rfl) he15 0 rfl (by omega) rfl) rfl ?_
      refine O.nil ?_
      refine J.cond rfl (fun h16 => ?_) (fun h16 => ?_)
      ·
        refine J.co 3 rfl ?_
        refine O.l (Lo.bm encZ [(k : Int)] U53 Z3 Y3 rfl rfl rfl (by kernel_rfl) rfl rfl) rfl ?_
        rintro V17 _ rfl
        refine O.l (Lo.am 1 N53 info3 rfl rfl rfl rfl rfl (Src.row 0 rfl) encZ.one (by first | omega | (have h_ := hi.len; omega) | (have h_ := h0.len; omega) | (simp only [List.length_append, List.length_cons, List.length_nil]; omega)) (by first | omega | (have h_ := hi.len; omega) | (have h_ := h0.len; omega) | (simp only [List.length_append, List.length_cons, List.length_nil]; omega))) rfl ?_
        rintro V18 _ rfl
        refine O.oo 5 rfl ?_
        refine O.p (Pu.add' rfl rfl (by omega)) rfl ?_
        refine O.oc 2 rfl ?_
        exact J.lq ⟨k + 1, V18, o ++ ([(k : Int)])⟩ [0, 4, 5] [1] [2] ⟨by omega, (by rw [hst]; first | exact (Gr.marked_yes (by rw [he15]; exact congrArg some (by assumption))).symm | exact (Gr.marked_no (by rw [he15]; exact congrArg some (by assumption))).symm), (by first | omega | (simp only [List.length_append, List.length_cons, List.length_nil]; omega))⟩ (by dsimp only; omega) ⟨rfl, (eqi (by omega)), trivial⟩ rfl rfl
      ·
        refine J.co 4 rfl ?_
        refine O.p (Pu.add' rfl rfl (by omega)) rfl ?_
        refine O.oc 2 rfl ?_
        exact J.lq ⟨k + 1, V, o⟩ [0, 4, 5] [0] [1] ⟨by omega, (by rw [hst]; first | exact (Gr.marked_yes (by rw [he15]; exact congrArg some (by assumption))).symm | exact (Gr.marked_no (by rw [he15]; exact congrArg some (by assumption))).symm), (by first | omega | (simp only [List.length_append, List.length_cons, List.length_nil]; omega))⟩ (by dsimp only; omega) ⟨rfl, (eqi (by omega)), trivial⟩ rfl rfl
    ·
      refine J.cc 6 rfl ?_
      exact J.r1 [0] rfl rfl rfl (congrArg (fun (z : List Int) => ([row V 3 1 (z.map encZ)] : List Sp)) (show o = Gr.reachL (gOf l) f from (by rw [hst, show k = (gOf l).length from by omega]; exact Gr.RO.row ((show r = (gOf l).length from by omega) ▸ h0))))

set_option maxRecDepth 100000 in
theorem r29_Check (lv : Value) (l : List Sg) (hl : l.length ≤ 1000) (hc : ∀ s ∈ l, s.cl.length ≤ 1000) : Tri Tryz.prog 32 #[lv] [rd lv 14 (l.map Sg.cells), ros (l.map Sg.rd)] [] (fun v L' => v = .int .i64 (Gr.loops (gOf l)) ∧ L' = []) := by
  have hgl := gOf_len (l := l)
  refine Tri.en F32 rfl K32 rfl fun w0 => ?_
  refine J.cc 10 rfl ?_
  refine J.lo (X := Nat) (fun k => k ≤ l.length ∧ ∀ j, j < k → ¬ Gr.Path (Gr.e (gOf l)) j j) (fun k => [(3, .int .i64 (k : Int))]) (fun k => []) (fun k => l.length - k) 0 [0] [] [] ⟨by omega, fun j hj => absurd hj (Nat.not_lt_zero _)⟩ ⟨(eqi (by omega)), trivial⟩ rfl rfl ?_
  rintro k ⟨hk, hno⟩
  refine J.co 5 rfl ?_
  refine O.q (Qt.lenM U23 rfl (Src.ro 0 rfl)) rfl ?_
  refine O.oc 2 rfl ?_
  refine J.cd rfl (fun p1 => ?_) (fun p1 => ?_)
  ·
    refine J.co 7 rfl ?_
    refine O.l (Lo.ca C65 (r29_Reach lv l k hl hc) [] rfl rfl (.ro 0 rfl (.ro 1 rfl .nil))) rfl ?_
    rintro v2 _ ⟨_, rfl, rfl⟩
    refine O.oo 1 rfl ?_
    refine O.l (Lo.ca C64 (r29_has v2 (Gr.reachL (gOf l) k) (k : Int) (by first | omega | (have h_ := Gr.reachL_len (g := (gOf l)) (i := k); omega))) [] rfl rfl (.of 0 row_rd rfl rfl .nil)) rfl ?_
    rintro _ _ ⟨_, ⟨rfl, rfl⟩, rfl⟩
    refine O.nil ?_
    refine J.cd rfl (fun p4 => ?_) (fun p4 => ?_)
    ·
      refine J.cc 4 rfl ?_
      exact J.r0 rfl rfl ⟨(by rw [Gr.loops_round (Gr.reach_self.1 (by assumption))]; rfl), rfl⟩
    ·
      refine J.co 4 rfl ?_
      refine O.p (Pu.add' rfl rfl (by omega)) rfl ?_
      refine O.oc 2 rfl ?_
      exact J.lq (k + 1) [0] [] [] ⟨by omega, fun j hj hp_ => by rcases Nat.lt_or_ge j k with h1_ | h1_; (· exact hno j h1_ hp_); (· have h2_ : j = k := (by omega); subst h2_; exact absurd (Gr.reach_self.2 hp_) (by assumption))⟩ (by omega) ⟨(eqi (by omega)), trivial⟩ rfl rfl
  ·
    refine J.cc 5 rfl ?_
    exact J.r0 rfl rfl ⟨(by rw [Gr.loops_none (fun i hi => hno i (by omega))]; rfl), rfl⟩

end Go.Proofs.YtnhfgnnpbipcnaaGreatDoor
