/-
  Several texts in one: VX1, VXN.
-/
import Derived.KernelRfl
import Derived.Test.YtohjlkjhpibkmaaGreatDoorJX1
import Derived.Test.YtohjlkjhpibkmaaGreatDoorJobA
import Derived.Test.YtohjlkjhpibkmaaGreatDoorLkE
namespace Go.Proofs.YtohjlkjhpibkmaaGreatDoor
open Go Go.LK
set_option linter.unusedSimpArgs false

set_option maxRecDepth 100000 in
theorem ky_381 (gv : Nat) (mv : Value) (m : List (Int × Int)) : ItN Tryz.prog 381 #[.pointer (some ⟨gv, 0, none⟩)] [var gv [mv] 178, miV mv (Value.int .i64) m] (kyNx m) (kyFull m) := by
  refine ItN.enter (lb := [.pointer (some ⟨gv, 0, none⟩)]) (body := _) 14 Tryz.func381 rfl Tryz.ntmps381 rfl (by rfl) ?_
  intro l mm X Z φ LL ψ LX Rx W y0 hro hy h0 R0 hR
  have hv := hro (var gv [mv] 178) (by simp)
  have hm := hro (miV mv (Value.int .i64) m) (by simp)
  rcases hm.1 with ⟨rfl, rfl⟩ | ⟨b, rfl, arr, clock, hb, hM⟩
  · refine ⟨[var gv [.map none] 178], fun A hA => ?_, ?_⟩
    · simp only [List.mem_singleton] at hA; subst hA; exact hv
    refine JI.seq ?_
    refine JI.region ?_
    refine OI.q (Qt.ld rfl (Cel.roVar 0 rfl) (o := 0) (off := 0) rfl (Cut.one Tryz.isAgg178 rfl)) rfl ?_
    refine OI.l (Lo.rangeNil Tryz.underlying178 rfl) rfl ?_
    rintro _ _ ⟨g, rfl, rfl⟩
    refine OI.nil ?_
    refine JI.block ?_
    refine JI.loop (X := Unit) (fun _ => True) (fun _ => [(0, .func (.yield l) #[] #[]), (5, .pointer (some ⟨g, 0, none⟩))]) (fun _ => blk g (.mapIter none 0 #[] 0) :: LL y0) (fun _ => 0) () trivial ⟨rfl, rfl, trivial⟩ (List.range (LL y0).length.succ) List.nodup_range (sel_all _) ?_
    rintro _ -
    refine JI.seq ?_
    refine JI.region ?_
    refine OI.l (Lo.nextNil 0 rfl rfl) rfl ?_
    rintro _ _ ⟨rfl, rfl⟩
    refine OI.p (Pu.extract rfl rfl) rfl ?_
    refine OI.nil ?_
    refine JI.seq ?_
    refine JI.condF rfl rfl ?_
    refine JI.exit _ rfl ?_
    exact JI.done fun ok a w ha hs => hR _ _ _ (.inl rfl) ha.defers (.inl ⟨[], y0, ⟨[], rfl, by simp [keysI]⟩, h0, hs.tail⟩)
  · have hb2 : (blk b (.map arr clock)).holds W := hb
    refine ⟨var gv [.map (some b)] 178 :: blk b (.map arr clock) :: Rx, fun A hA => ?_, ?_⟩
    · rcases List.mem_cons.1 hA with rfl | hA
      · exact hv
      · rcases List.mem_cons.1 hA with rfl | hA
        · exact ⟨hb2, hm.2⟩
        · exact hro A (by simp [hA])
    refine JI.seq ?_
    refine JI.region ?_
    refine OI.q (Qt.ld rfl (Cel.roVar 0 rfl) (o := 0) (off := 0) rfl (Cut.one Tryz.isAgg178 rfl)) rfl ?_
    refine OI.l (Lo.rangeM 1 Tryz.underlying178 rfl rfl) rfl ?_
    rintro _ _ ⟨g, rfl, rfl⟩
    refine OI.nil ?_
    refine JI.block ?_
    refine JI.loop (X := List Int × Array Nat × X) (fun ξ => Walk m arr ξ.2.1 ξ.1 ∧ φ (ξ.1.map fun k => [Value.int .i64 k]) ξ.2.2) (fun _ => [(0, .func (.yield l) #[] #[]), (5, .pointer (some ⟨g, 0, none⟩))]) (fun ξ => blk g (.mapIter (some b) clock ξ.2.1 clock) :: LL ξ.2.2) (fun ξ => (leftOf arr ξ.2.1).size) ⟨[], #[], y0⟩ ⟨Walk.nil, h0⟩ ⟨rfl, rfl, trivial⟩ (List.range (LL y0).length.succ) List.nodup_range (sel_all _) ?_
    rintro ⟨ks, seen, y⟩ ⟨hw, hφ⟩
    refine JI.seq ?_
    refine JI.region ?_
    refine OI.l (Lo.nextM 0 1 rfl rfl rfl hM.old) rfl ?_
    rintro _ _ (⟨h0', rfl, rfl⟩ | ⟨en, hen, rfl, rfl⟩)
    · refine OI.p (Pu.extract rfl rfl) rfl ?_
      refine OI.nil ?_
      refine JI.seq ?_
      refine JI.condF rfl rfl ?_
      refine JI.exit _ rfl ?_
      exact JI.done fun ok a w ha hs => hR _ _ _ (.inl rfl) ha.defers (.inl ⟨_, y, ⟨ks, rfl, hw.full hM h0'⟩, hφ, hs.tail⟩)
    · obtain ⟨k, v, hk, -, hkv, hkn, hw2⟩ := hw.next hM hen
      refine OI.p (Pu.extract rfl rfl) rfl ?_
      refine OI.nil ?_
      refine JI.seq ?_
      refine JI.condT rfl rfl ?_
      refine JI.skip ?_
      refine JI.block ?_
      refine JI.seq ?_
      refine JI.region ?_
      refine OI.q (Qt.entryM 0 1 rfl rfl rfl (mem_left hen).1 hM.born) rfl ?_
      rw [hk]
      refine OI.p (Pu.extract rfl rfl) rfl ?_
      refine OI.p (Pu.assign rfl) rfl ?_
      refine OI.nil ?_
      refine JI.seq ?_
      refine JI.region ?_
      refine OI.p (Pu.move rfl) rfl ?_
      refine OI.p (Pu.move rfl) rfl ?_
      refine OI.yieldN (l := l) (vs := [.int .i64 k]) [blk g (.mapIter (some b) clock (seen.push en.born) clock)] (LL y) (K := fun b_ L' => match b_ with | true => ∃ y', φ ((ks ++ [k]).map fun k => [Value.int .i64 k]) y' ∧ L' = LL y' | false => ∃ z, ψ z ∧ L' = LX z) rfl rfl rfl rfl rfl (fun ok W1 hs1 hs2 => ?_) rfl ?_
      · have hall := Cx.roAll ok hs1
        have hft : ∀ j, j ∈ feet (LL y) → j ∈ feet (blk g (.mapIter (some b) clock (seen.push en.born) clock) :: LL y) := fun j hj => by rw [feet_cons]; exact List.mem_append.2 (.inr hj)
        refine YieldAt.weak (hy _ y [.int .i64 k] W1 hφ ⟨k, List.mem_map.2 ⟨_, hkv, rfl⟩, rfl, ky_not hkn⟩ (fun A hA => ?_) hs2) ?_
        · simp only [List.cons_append, List.nil_append, List.mem_cons] at hA
          rcases hA with rfl | rfl | hA
          · have := hall (var gv [.map (some b)] 178) (by simp)
            exact ⟨this.1, fun j hj hj' => this.2 j hj (hft j hj')⟩
          · have := hall (blk b (.map arr clock)) (by simp)
            exact ⟨.inr ⟨b, rfl, arr, clock, this.1, hM⟩, fun j hj hj' => this.2 j hj (hft j hj')⟩
          · have := hall A (by simp [hA])
            exact ⟨this.1, fun j hj hj' => this.2 j hj (hft j hj')⟩
        · rintro e W' (⟨rfl, y', hy', hs'⟩ | ⟨rfl, z, hz, hs'⟩)
          · exact ⟨true, _, rfl, ⟨y', by rw [ky_app]; exact hy', rfl⟩, hs'⟩
          · exact ⟨false, _, rfl, ⟨z, hz, rfl⟩, hs'⟩
      · rintro b_ L' hK
        cases b_
        · obtain ⟨z, hz, rfl⟩ := hK
          refine OI.p (Pu.not rfl) rfl ?_
          refine OI.nil ?_
          refine JI.condT rfl rfl ?_
          exact JI.ret fun ok a w ha hs => hR _ _ _ (.inr rfl) ha.defers (.inr ⟨z, hz, hs.tail⟩)
        · obtain ⟨y', hy', rfl⟩ := hK
          refine OI.p (Pu.not rfl) rfl ?_
          refine OI.nil ?_
          refine JI.condF rfl rfl ?_
          refine JI.skip ?_
          refine JI.blk ?_
          exact JI.lp ⟨ks ++ [k], seen.push en.born, y'⟩ ⟨hw2, hy'⟩ (left_shrinks arr seen en hen) ⟨rfl, rfl, trivial⟩ (List.range (LL y').length.succ) List.nodup_range (sel_all _)
theorem sort_rising {ks l : List Int} (hn : ks.Nodup) (hp : ks.Perm l) : ks.mergeSort (fun x y => decide (x ≤ y)) = Jb.rising l := by
  have hm := List.mergeSort_perm ks fun x y => decide (x ≤ y)
  have hs : (ks.mergeSort fun x y => decide (x ≤ y)).Pairwise (fun x y => decide (x ≤ y) = true) := List.pairwise_mergeSort (fun a b c h1 h2 => by simp only [decide_eq_true_eq] at *; omega) (fun a b => by simp only [Bool.or_eq_true, decide_eq_true_eq]; omega) ks
  have hn2 : (ks.mergeSort fun x y => decide (x ≤ y)).Nodup := hm.nodup_iff.2 hn
  refine Jb.up_ext ?_ (Jb.rising_up l) fun x => ?_
  · exact (List.pairwise_and_iff.2 ⟨hs, hn2⟩).imp fun h => by
      have := h.1; have := h.2
      simp only [decide_eq_true_eq] at *; omega
  · rw [hm.mem_iff, hp.mem_iff, Jb.mem_rising]

set_option maxRecDepth 100000 in
theorem w_Keys (mv : Value) (hmv : Value.oneCell' mv = true) : Tri Tryz.prog 358 #[mv] [] [] (fun v L' => ∃ g, v = .func (.func 381) #[] #[.pointer (some ⟨g, 0, none⟩)] ∧ L' = [var g [mv] 178]) := by
  refine Tri.enter (args := [mv]) (body := _) 4 Tryz.func358 rfl Tryz.ntmps358 rfl ?_
  intro w0
  refine J.seq ?_
  refine J.region ?_
  refine O.l (Lo.box [mv] rfl (one_cells hmv)) rfl ?_
  rintro _ _ ⟨g1, rfl, rfl⟩
  refine O.p (Pu.assign rfl) rfl ?_
  refine O.nil ?_
  refine J.seq ?_
  refine J.region ?_
  refine O.p (Pu.makeFunc [.pointer (some ⟨g1, 0, none⟩)] rfl) rfl ?_
  refine O.p (Pu.assign rfl) rfl ?_
  refine O.nil ?_
  exact J.ret (Fin.ret (rs := [.tmp 2]) rfl [_] ⟨rfl, trivial⟩ [0] (by decide) [var g1 [mv] 178] rfl ⟨g1, rfl, rfl⟩)

set_option maxRecDepth 100000 in
theorem w_AppendSeq (gv : Nat) (mv : Value) (m : List (Int × Int)) (hm : m.length ≤ 100000) : Tri Tryz.prog 390 #[Value.slice none 0 0, .func (.func 381) #[] #[.pointer (some ⟨gv, 0, none⟩)]] [var gv [mv] 178, miV mv (Value.int .i64) m] [] (fun v L' => ∃ ks : List Int, (ks.Nodup ∧ ks.Perm (keysI m)) ∧ L' = [row v 3 1 (ks.map encZ)]) := by
  refine Tri.enterI (args := [Value.slice none 0 0, .func (.func 381) #[] #[.pointer (some ⟨gv, 0, none⟩)]]) (body := _) 13 Tryz.func390 rfl Tryz.ntmps390 rfl ?_
  intro w0
  refine JI.seq ?_
  refine JI.region ?_
  refine OI.l (Lo.box [Value.slice none 0 0] rfl rfl) rfl ?_
  rintro _ _ ⟨g1, rfl, rfl⟩
  refine OI.p (Pu.assign rfl) rfl ?_
  refine OI.nil ?_
  refine JI.seq ?_
  refine JI.seq ?_
  refine JI.region ?_
  refine OI.p (Pu.move rfl) rfl ?_
  refine OI.nil ?_
  refine JI.block ?_
  refine JI.trim [(2, .pointer (some ⟨g1, 0, none⟩)), (4, Value.slice none 0 0), (6, .func (.func 381) #[] #[.pointer (some ⟨gv, 0, none⟩)])] ⟨rfl, rfl, rfl, trivial⟩ ?_
  refine JI.nilRow 3 1 ?_
  refine JI.rangeN (gf := 381) (X := Value × List Int) (Z := Unit) (fun vs ξ => KMet m vs ξ.2) (fun ξ => [var g1 [ξ.1] 60, row ξ.1 3 1 (ξ.2.map encZ)]) (fun x ξ => x = .ret ∧ (False)) (fun ξ => []) rfl rfl (fun _ _ => by rfl) (ky_381 gv mv m) (fun vs x hx_ => by obtain ⟨_, _, rfl, _⟩ := hx_; rfl) rfl ⟨Value.slice none 0 0, []⟩ KMet.nil [1, 0] (by decide) rfl (fun A hA => hA) (fun W1 M1 l2 D2 rec2 vs2 y2 x2 hS2 hT2 hy2 hx2 => ?_) (fun l2 D2 r2 vs2 y2 hf2 hy2 => ?_) (fun l2 D2 r2 x2 y2 hy2 => ?_)
  ·
    obtain ⟨e3, hk_e3, rfl, hn_e3⟩ := hx2
    obtain ⟨V, ks⟩ := y2
    have hmet : KMet m vs2 ks := hy2
    show JI _ _ _ ([(7, .int .i64 e3)] ++ [(2, .pointer (some ⟨g1, 0, none⟩)), (4, Value.slice none 0 0), (6, .func (.func 381) #[] #[.pointer (some ⟨gv, 0, none⟩)])]) [blk l2 (.loop (rec2 .ready none)), blk D2 (.deferred (some [])), var g1 [V] 60, row V 3 1 (ks.map encZ)]
    refine JI.region ?_
    refine OI.p (Pu.assign rfl) rfl ?_
    refine OI.nil ?_
    refine JI.begin (hS2 _ _) ?_
    refine JI.block ?_
    refine JI.region ?_
    refine OI.q (Qt.ld rfl (Cel.var 2 rfl) (o := 0) (off := 0) rfl (Cut.one Tryz.isAgg60 rfl)) rfl ?_
    refine OI.p (Pu.move rfl) rfl ?_
    refine OI.l (Lo.buildM (s := 1) encZ [e3] [(0, .int .i64 e3)] (by exact Tryz.runUnderlying60) (by exact Tryz.sizeOf3) (by exact Tryz.zeroValue3) rfl rfl rfl (by kernel_rfl) rfl rfl) rfl ?_
    rintro V4 _ rfl
    refine OI.l (Lo.appendM (s := 1) 4 (by exact Tryz.underlying60) (by exact (info3).1) (by exact (info3).2.1) (by exact (info3).2.2.1) (by exact (info3).2.2.2) rfl rfl rfl rfl rfl (Src.row 0 rfl) encZ.one (by have h1_ := hmet.len; first | omega | (simp only [List.length_append, List.length_cons, List.length_nil]; omega)) (by have h1_ := hmet.len; first | omega | (simp only [List.length_append, List.length_cons, List.length_nil]; omega))) rfl ?_
    rintro V5 _ rfl
    refine OI.one (Src.row 4 rfl) (fun hV6 => ?_)
    refine OI.l0 (Lo.store 3 (vs := [V5]) [V5] rfl rfl rfl (by exact Tryz.sizeOf60) (one_cells hV6) rfl (one_all hV6) rfl rfl) ?_
    rintro _ _ rfl
    refine OI.nil ?_
    refine JI.blk ?_
    exact RE.nextS (r := { rec2 .ready none with state := .busy }) ⟨V5, ks ++ ([e3])⟩ (show KMet m (vs2 ++ [[.int .i64 e3]]) (ks ++ ([e3])) from (hmet.next hk_e3 hn_e3)) rfl [1, 2, 3, 4] (by decide) rfl (hT2 .ready none .ready none)
  ·
    obtain ⟨V, ks⟩ := y2
    have hmet : KMet m vs2 ks := hy2
    have hperm := kyFull_of hf2 hmet.1
    show JI _ _ _ [(2, .pointer (some ⟨g1, 0, none⟩)), (4, Value.slice none 0 0), (6, .func (.func 381) #[] #[.pointer (some ⟨gv, 0, none⟩)])] [blk l2 (.loop r2), blk D2 (.deferred (some [])), var g1 [V] 60, row V 3 1 (ks.map encZ)]
    refine JI.blk ?_
    refine JI.seq ?_
    refine JI.region ?_
    refine OI.q (Qt.ld rfl (Cel.var 2 rfl) (o := 0) (off := 0) rfl (Cut.one Tryz.isAgg60 rfl)) rfl ?_
    refine OI.p (Pu.assign rfl) rfl ?_
    refine OI.nil ?_
    exact JI.retM (j := 1) rfl rfl rfl (Fin.ret (rs := [.tmp 4]) rfl [_] ⟨rfl, trivial⟩ [3] (by decide) [row V 3 1 (ks.map encZ)] rfl ⟨ks, ⟨hmet.2.1, hperm⟩, rfl⟩)
  ·
    exact hy2.2.elim

set_option maxRecDepth 100000 in
theorem w_Collect (gv : Nat) (mv : Value) (m : List (Int × Int)) (hm : m.length ≤ 100000) : Tri Tryz.prog 380 #[.func (.func 381) #[] #[.pointer (some ⟨gv, 0, none⟩)]] [var gv [mv] 178, miV mv (Value.int .i64) m] [] (fun v L' => ∃ ks : List Int, (ks.Nodup ∧ ks.Perm (keysI m)) ∧ L' = [row v 3 1 (ks.map encZ)]) := by
  refine Tri.enter (args := [.func (.func 381) #[] #[.pointer (some ⟨gv, 0, none⟩)]]) (body := _) 5 Tryz.func380 rfl Tryz.ntmps380 rfl ?_
  intro w0
  refine J.seq ?_
  refine J.region ?_
  refine O.p (Pu.assign rfl) rfl ?_
  refine O.nil ?_
  refine J.seq ?_
  refine J.region ?_
  refine O.p (Pu.move rfl) rfl ?_
  refine O.l (Lo.call [Value.slice none 0 0, .func (.func 381) #[] #[.pointer (some ⟨gv, 0, none⟩)]] (by exact Tryz.call390) rfl (w_AppendSeq gv mv m (by omega)) [] [] (by decide) rfl [] rfl (RoOk.ro 0 rfl [] rfl (RoOk.ro 1 rfl [] rfl RoOk.nil))) rfl ?_
  rintro v4 _ ⟨_, ⟨ks2, hp3, rfl⟩, rfl⟩
  have hperm := hp3
  refine O.p (Pu.assign rfl) rfl ?_
  refine O.nil ?_
  exact J.ret (Fin.ret (rs := [.tmp 2]) rfl [_] ⟨rfl, trivial⟩ [0] (by decide) [row v4 3 1 (ks2.map encZ)] rfl ⟨ks2, hperm, rfl⟩)

set_option maxRecDepth 100000 in
theorem w_Sorted (gv : Nat) (mv : Value) (m : List (Int × Int)) (hm : m.length ≤ 100000) : Tri Tryz.prog 357 #[.func (.func 381) #[] #[.pointer (some ⟨gv, 0, none⟩)]] [var gv [mv] 178, miV mv (Value.int .i64) m] [] (fun v L' => L' = [row v 3 1 ((Jb.rising (keysI m)).map encZ)]) := by
  refine Tri.enter (args := [.func (.func 381) #[] #[.pointer (some ⟨gv, 0, none⟩)]]) (body := _) 9 Tryz.func357 rfl Tryz.ntmps357 rfl ?_
  intro w0
  refine J.seq ?_
  refine J.region ?_
  refine O.p (Pu.assign rfl) rfl ?_
  refine O.nil ?_
  refine J.seq ?_
  refine J.region ?_
  refine O.p (Pu.move rfl) rfl ?_
  refine O.l (Lo.call [.func (.func 381) #[] #[.pointer (some ⟨gv, 0, none⟩)]] (by exact Tryz.call380) rfl (w_Collect gv mv m (by omega)) [] [] (by decide) rfl [] rfl (RoOk.ro 0 rfl [] rfl (RoOk.ro 1 rfl [] rfl RoOk.nil))) rfl ?_
  rintro v4 _ ⟨_, ⟨ks2, hp3, rfl⟩, rfl⟩
  have hperm := hp3
  refine O.p (Pu.assign rfl) rfl ?_
  refine O.nil ?_
  refine J.seq ?_
  refine J.region ?_
  refine O.p (Pu.move rfl) rfl ?_
  refine O.l (Lo.call [v4] (by exact Tryz.call274) rfl (s_Sort v4 ks2 (by first | omega | (have h_ := (hperm.2).length_eq; simp only [keysI, List.length_map] at h_; omega))) [0] [] (by decide) rfl [] rfl RoOk.nil) rfl ?_
  rintro _ _ ⟨_, ⟨rfl, rfl⟩, rfl⟩
  refine O.nil ?_
  refine J.seq ?_
  refine J.region ?_
  refine O.p (Pu.move rfl) rfl ?_
  refine O.p (Pu.assign rfl) rfl ?_
  refine O.nil ?_
  exact J.ret (Fin.ret (rs := [.tmp 2]) rfl [_] ⟨rfl, trivial⟩ [0] (by decide) [row v4 3 1 ((ks2.mergeSort (fun x y => decide (x ≤ y))).map encZ)] rfl (congrArg (fun (z : List Int) => ([row v4 3 1 (z.map encZ)] : List Sp)) (sort_rising hperm.1 hperm.2)))

set_option maxRecDepth 100000 in
theorem w_OfNo (p b o : Nat) (om : List (Int × (Nat × List (Int × Int)))) (j : Int) (hO : getI om j = none) : Tri Tryz.prog 327 #[.pointer (some ⟨p, 0, none⟩), .int .i64 j] [var p [.map (some b), .map (some o)] 195, mi o vO om] [] (fun v L' => L' = [row v 3 1 (([] : List Int).map encZ)]) := by
  refine Tri.enter (args := [.pointer (some ⟨p, 0, none⟩), .int .i64 j]) (body := _) 15 Tryz.func327 rfl Tryz.ntmps327 rfl ?_
  intro w0
  refine J.seq ?_
  refine J.region ?_
  refine O.p (Pu.assign rfl) rfl ?_
  refine O.nil ?_
  refine J.seq ?_
  refine J.seq ?_
  refine J.region ?_
  refine O.p (Pu.move rfl) rfl ?_
  refine O.p (Pu.someEq Tryz.underlying87 rfl) rfl ?_
  refine O.nil ?_
  refine J.condF rfl rfl ?_
  refine J.skip ?_
  refine J.seq ?_
  refine J.region ?_
  refine O.p (Pu.move rfl) rfl ?_
  refine O.p (Pu.nilCheck rfl) rfl ?_
  refine O.p (Pu.fieldAddr (off' := 1) Tryz.runUnderlying195 rfl Tryz.sizeOf193 rfl rfl rfl) rfl ?_
  refine O.q (Qt.ld rfl (Cel.roVar 0 rfl) (o := 0) (off := 1) rfl (Cut.one Tryz.isAgg193 rfl)) rfl ?_
  refine O.p (Pu.move rfl) rfl ?_
  refine O.q (Qt.lkI (V := Value.map none) Tryz.underlying193 Tryz.underlying3 Tryz.zeroValue178 rfl rfl (Mc.ro 1 o rfl rfl) (by rw [hO]; rfl)) rfl ?_
  refine O.l (Lo.call [Value.map none] (by exact Tryz.call358) rfl (w_Keys (Value.map none) rfl) [] [] (by decide) rfl [] rfl RoOk.nil) rfl ?_
  rintro _ _ ⟨_, ⟨g1, rfl, rfl⟩, rfl⟩
  refine O.l (Lo.call [.func (.func 381) #[] #[.pointer (some ⟨g1, 0, none⟩)]] (by exact Tryz.call357) rfl (w_Sorted g1 (Value.map none) ([]) (by simp)) [] [0] (by decide) rfl [var g1 [Value.map none] 178] rfl (RoOk.of 0 rfl same_rd [] (by decide) rfl (RoOk.nilM RoOk.nil))) rfl ?_
  rintro v3 _ ⟨_, rfl, rfl⟩
  refine O.p (Pu.assign rfl) rfl ?_
  refine O.nil ?_
  exact J.ret (Fin.ret (rs := [.tmp 4]) rfl [_] ⟨rfl, trivial⟩ [0] (by decide) [row v3 3 1 ((Jb.rising (keysI ([]))).map encZ)] rfl rfl)

end Go.Proofs.YtohjlkjhpibkmaaGreatDoor

namespace Go.Proofs.YtohjlkjhpibkmaaGreatDoor
open Go Go.LK
theorem nd_OfNo (p b o : Nat) (j : Int) : Tri Tryz.prog 327 #[.pointer (some ⟨p, 0, none⟩), .int .i64 j] [var p [.map (some b), .map (some o)] 195, mi o vO ([] : List (Int × (Nat × List (Int × Int))))] [] (fun v L' => ∃ V, v = V ∧ L' = [row V 3 1 (([] : List (List Value)).map id)]) :=
  (w_OfNo p b o [] j rfl).weak fun v _ h => ⟨v, rfl, h⟩
theorem nd_Sort0 (V : Value) : Tri Tryz.prog 274 #[V] [] [row V 3 1 (([] : List (List Value)).map id)] (fun v L' => v = .tuple #[] ∧ L' = [row V 3 1 (([] : List (List Value)).map id)]) :=
  (s_Sort V [] (by decide)).weak fun v _ h => by rw [List.mergeSort_nil] at h; exact h
end Go.Proofs.YtohjlkjhpibkmaaGreatDoor
