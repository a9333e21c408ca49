/-
  Walks, printed by a program of mine (lk.py): each function meets its contract.
-/
import Derived.KernelRfl
import Derived.Test.YtnkhmbbnabejhaaVX1
import Derived.Test.YtnkhmbbnabejhaaWait1
namespace Go.Proofs.Ytnkhmbbnabejhaa
open Go Go.LK
set_option linter.unusedSimpArgs false

theorem wt_Job (p : Nat) (s : Ws) (x : List Pr) (hR : Wt.Rep x s) (c : Int) : Tri Try.prog 19 #[.pointer (some ⟨p, 0, none⟩), .int .i64 c] [wt 62 p s] [] (fun v L' => v = .tuple #[.int .i64 ((Wt.jobOf x c).getD 0), .bool (Wt.jobOf x c).isSome] ∧ L' = []) := by
  cases hc : Wt.jobOf x c with
  | none => exact (w_JobNo p s.b s.o s.pm c (by rw [hR.by_, hc])).roFrom (by intro A hA; simp only [List.mem_cons, List.not_mem_nil, or_false] at hA; rcases hA with rfl | rfl <;> exact wt_at (by simp [Ws.L]))
  | some j => exact (w_Job p s.b s.o s.pm c j (by rw [hR.by_, hc])).roFrom (by intro A hA; simp only [List.mem_cons, List.not_mem_nil, or_false] at hA; rcases hA with rfl | rfl <;> exact wt_at (by simp [Ws.L]))
theorem wt_Len (p : Nat) (s : Ws) (x : List Pr) (hR : Wt.Rep x s) : Tri Try.prog 30 #[.pointer (some ⟨p, 0, none⟩)] [wt 62 p s] [] (fun v L' => v = .int .i64 (x.length : Int) ∧ L' = []) := by
  rw [← hR.len]
  exact (w_Len p s.b s.o s.pm).roFrom (by intro A hA; simp only [List.mem_cons, List.not_mem_nil, or_false] at hA; rcases hA with rfl | rfl <;> exact wt_at (by simp [Ws.L]))
theorem wt_Of (p : Nat) (s : Ws) (x : List Pr) (hR : Wt.Rep x s) (j : Int) (hl : x.length ≤ 100000) : Tri Try.prog 18 #[.pointer (some ⟨p, 0, none⟩), .int .i64 j] [wt 62 p s] [] (fun v L' => L' = [row v 3 1 ((Wt.ofJ x j).map encZ)]) := by
  cases hv : getI s.om j with
  | none =>
    rw [hR.noJob hv]
    exact (w_OfNo p s.b s.o s.om j hv).roFrom (by intro A hA; simp only [List.mem_cons, List.not_mem_nil, or_false] at hA; rcases hA with rfl | rfl <;> exact wt_at (by simp [Ws.L]))
  | some v =>
    rw [← hR.keys hv]
    have hk := hR.ofS j v hv
    refine (w_Of p s.b s.o s.om j v hv ?_).roFrom ?_
    · have h1 : (keysI v.2).length ≤ (Wt.calls x).length := nodup_len hk.1 fun c hc => Wt.jobOf_mem.1 ⟨j, (hk.2.2 c).1 hc⟩
      simp only [keysI, Wt.calls, List.length_map] at h1
      omega
    · intro A hA
      simp only [List.mem_cons, List.not_mem_nil, or_false] at hA
      rcases hA with rfl | rfl | rfl
      · exact wt_at (by simp [Ws.L])
      · exact wt_at (by simp [Ws.L])
      · exact wt_in (getI_some hv)
theorem wt_Add (p : Nat) (s : Ws) (x : List Pr) (hR : Wt.Rep x s) (c j : Int) : Tri Try.prog 20 #[.pointer (some ⟨p, 0, none⟩), .int .i64 c, .int .i64 j] [] [wt 62 p s] (fun v L' => v = .bool (!(Wt.jobOf x c).isSome) ∧ ∃ s', Wt.Rep (Wt.add x c j) s' ∧ L' = [wt 62 p s']) := by
  cases hc : Wt.jobOf x c with
  | some q =>
    refine (w_AddIs p s.b s.o s.pm c j q (by rw [hR.by_, hc])).readOwn (by intro A hA; simp only [List.mem_cons, List.not_mem_nil, or_false] at hA; rcases hA with rfl | rfl <;> exact wt_at (by simp [Ws.L])) ?_
    rintro v L1 ⟨rfl, rfl⟩
    exact ⟨rfl, s, by rw [Wt.add, hc]; exact hR, rfl⟩
  | none =>
    have ha : Wt.add x c j = Wt.ins x c j := by rw [Wt.add, hc]; rfl
    rw [ha]
    cases hv : getI s.om j with
    | some v =>
      obtain ⟨R, h1, h2, _⟩ := wt_open (T := 62) (p := p) hR.on hv
      refine (w_AddHas p s.b s.o s.pm s.om R c j v (by rw [hR.by_, hc]) hv).conv h1 ?_
      rintro w L' ⟨rfl, rfl⟩
      exact ⟨_, ⟨rfl, _, hR.addHas hc hv, rfl⟩, h2 _ _⟩
    | none =>
      refine (w_AddNew p s.b s.o s.pm s.om (s.om.map inA) c j (by rw [hR.by_, hc]) hv).conv wt_lay ?_
      rintro w L' ⟨q, rfl, rfl⟩
      exact ⟨_, ⟨rfl, _, hR.addNew (b := q) hc hv, rfl⟩, wt_more hv q _ _ _⟩
theorem wt_Take (p : Nat) (s : Ws) (x : List Pr) (hR : Wt.Rep x s) (c : Int) : Tri Try.prog 21 #[.pointer (some ⟨p, 0, none⟩), .int .i64 c] [] [wt 62 p s] (fun v L' => v = .tuple #[.int .i64 ((Wt.jobOf x c).getD 0), .bool (Wt.jobOf x c).isSome] ∧ ∃ s', Wt.Rep (Wt.without x c) s' ∧ L' = [wt 62 p s']) := by
  cases hc : Wt.jobOf x c with
  | none =>
    refine (w_TakeNo p s.b s.o s.pm c (by rw [hR.by_, hc])).readOwn (by intro A hA; simp only [List.mem_cons, List.not_mem_nil, or_false] at hA; rcases hA with rfl | rfl <;> exact wt_at (by simp [Ws.L])) ?_
    rintro v L1 ⟨rfl, rfl⟩
    have hw : Wt.without x c = x := List.filter_eq_self.2 fun q hq => by
      have : q.call ≠ c := fun e => Wt.jobOf_none.1 hc (List.mem_map.2 ⟨q, hq, e⟩)
      simp [this]
    exact ⟨rfl, s, by rw [hw]; exact hR, rfl⟩
  | some j =>
    obtain ⟨v, hv, hcv⟩ := hR.hasJob hc
    obtain ⟨R, h1, h2, h3⟩ := wt_open (T := 62) (p := p) hR.on hv
    rcases Decidable.em (delI v.2 c = []) with hd | hd
    · refine (w_TakeLast p s.b s.o s.pm s.om R c j v (by rw [hR.by_, hc]) hv hd).conv h1 ?_
      rintro w L' ⟨rfl, rfl⟩
      exact ⟨_, ⟨rfl, _, hR.takeLast hc hv hd, rfl⟩, h3 _⟩
    · refine (w_TakeMore p s.b s.o s.pm s.om R c j v (by rw [hR.by_, hc]) hv hd).conv h1 ?_
      rintro w L' ⟨rfl, rfl⟩
      exact ⟨_, ⟨rfl, _, hR.takeMore hc hv hd, rfl⟩, h2 _ _⟩
theorem wt_Clear (p : Nat) (s : Ws) : Tri Try.prog 29 #[.pointer (some ⟨p, 0, none⟩)] [] [wt 62 p s] (fun v L' => v = .tuple #[] ∧ ∃ s', Wt.Rep [] s' ∧ L' = [wt 62 p s']) := by
  refine (w_Clear p s.b s.o s.pm s.om (s.om.map inA)).conv wt_lay ?_
  rintro w L' ⟨rfl, rfl⟩
  exact ⟨_, ⟨rfl, _, Wt.Rep.new, rfl⟩, wt_none⟩
theorem wt_New : Tri Try.prog 17 #[] [] [] (fun v L' => ∃ p s, v = .pointer (some ⟨p, 0, none⟩) ∧ L' = [wt 62 p s] ∧ Wt.Rep [] s) := by
  refine w_New.conv (Re.refl []) ?_
  rintro w L' ⟨p, b, o, rfl, rfl⟩
  exact ⟨_, ⟨p, _, rfl, rfl, Wt.Rep.new⟩, wt_none⟩

set_option maxRecDepth 100000 in
theorem wt_Drop (p : Nat) (s : Ws) (x : List Pr) (hR : Wt.Rep x s) (j : Int) (hl : x.length ≤ 100000) : Tri Try.prog 22 #[.pointer (some ⟨p, 0, none⟩), .int .i64 j] [] [wt 62 p s] (fun v L' => ∃ s', Wt.Rep (Wt.drop x j) s' ∧ L' = [row v 3 1 ((Wt.ofJ x j).map encZ), wt 62 p s']) := by
  refine Tri.enter (args := [.pointer (some ⟨p, 0, none⟩), .int .i64 j]) (body := _) 22 Try.func22 rfl Try.ntmps22 rfl ?_
  intro w0
  refine J.seq ?_
  refine J.region ?_
  refine O.p (Pu.assign rfl) rfl ?_
  refine O.nil ?_
  refine J.seq ?_
  refine J.region ?_
  refine O.p (Pu.move rfl) rfl ?_
  refine O.p (Pu.move rfl) rfl ?_
  refine O.l (Lo.call [.pointer (some ⟨p, 0, none⟩), .int .i64 j] (by exact Try.call18) rfl (wt_Of p s x hR j (by omega)) [] [0] (by decide) rfl [wt 62 p s] rfl (RoOk.of 0 rfl same_rd [] (by decide) rfl RoOk.nil)) rfl ?_
  rintro v1 _ ⟨_, rfl, rfl⟩
  refine O.p (Pu.assign rfl) rfl ?_
  refine O.nil ?_
  refine J.seq ?_
  refine J.seq ?_
  refine J.region ?_
  refine O.p (Pu.move rfl) rfl ?_
  refine O.q (Qt.lenM Try.runUnderlying24 rfl (Src.row 0 rfl)) rfl ?_
  refine O.p (Pu.move rfl) rfl ?_
  refine O.nil ?_
  refine J.block ?_
  refine J.loop (X := Nat × Ws) (fun ξ => ξ.1 ≤ (Wt.ofJ x j).length ∧ Wt.Rep (Wt.cut x (Wt.ofJ x j) ξ.1) ξ.2) (fun ξ => [(0, .pointer (some ⟨p, 0, none⟩)), (4, Value.slice none 0 0), (5, v1), (11, v1), (12, .int .i64 ((Wt.ofJ x j).length : Int)), (13, .int .i64 (ξ.1 : Int))]) (fun ξ => [wt 62 p ξ.2, row v1 3 1 ((Wt.ofJ x j).map encZ)]) (fun ξ => (Wt.ofJ x j).length - ξ.1) ⟨0, s⟩ (show 0 ≤ (Wt.ofJ x j).length ∧ Wt.Rep (Wt.cut x (Wt.ofJ x j) 0) s from ⟨by omega, hR⟩) ⟨rfl, rfl, rfl, rfl, rfl, (congrArg (fun z => some (Value.int .i64 z)) (by first | rfl | omega : (0 : Int) = (0 : Int))), trivial⟩ [1, 0] (by decide) rfl ?_
  rintro ⟨k, s1⟩ hq2
  obtain ⟨hk, hR1⟩ : k ≤ (Wt.ofJ x j).length ∧ Wt.Rep (Wt.cut x (Wt.ofJ x j) k) s1 := hq2
  show J _ _ [(0, .pointer (some ⟨p, 0, none⟩)), (4, Value.slice none 0 0), (5, v1), (11, v1), (12, .int .i64 ((Wt.ofJ x j).length : Int)), (13, .int .i64 (k : Int))] [wt 62 p s1, row v1 3 1 ((Wt.ofJ x j).map encZ)]
  refine J.seq ?_
  refine J.region ?_
  refine O.p (Pu.lss rfl rfl) rfl ?_
  refine O.nil ?_
  refine J.seq ?_
  refine J.cond rfl (fun h3 => ?_) (fun h3 => ?_)
  ·
    have p4 := of_decide_eq_true h3
    refine J.skip ?_
    refine J.seq ?_
    refine J.block ?_
    refine J.seq ?_
    refine J.region ?_
    obtain ⟨e5, he5⟩ : ∃ x_, (Wt.ofJ x j)[k]? = some x_ := ⟨_, List.getElem?_eq_getElem (by omega)⟩
    refine O.q (Qt.idxM Try.runUnderlying24 Try.sizeOf3 rfl (Src.row 1 rfl) rfl (by omega) (by omega)) rfl ?_
    refine O.q (Qt.ld rfl (Cel.eltM (Src.row 1 rfl) he5) (o := (voff v1 + k * 1)) (off := 0) (by omega) (Cut.one Try.isAgg3 rfl)) rfl ?_
    refine O.p (Pu.assign rfl) rfl ?_
    refine O.nil ?_
    refine J.region ?_
    refine O.p (Pu.move rfl) rfl ?_
    refine O.p (Pu.move rfl) rfl ?_
    refine O.l (Lo.call [.pointer (some ⟨p, 0, none⟩), .int .i64 e5] (by exact Try.call21) rfl (wt_Take p s1 (Wt.cut x (Wt.ofJ x j) k) hR1 e5) [0] [1] (by decide) rfl [row v1 3 1 ((Wt.ofJ x j).map encZ)] rfl RoOk.nil) rfl ?_
    rintro _ _ ⟨_, ⟨rfl, s6, hR7, rfl⟩, rfl⟩
    have hns6 : (Wt.without (Wt.cut x (Wt.ofJ x j) k) e5).length ≤ (Wt.cut x (Wt.ofJ x j) k).length + 1 := by first | omega | exact Nat.le_of_eq Wt.ins_len | exact Nat.le_succ_of_le Wt.without_len | exact Nat.le_succ_of_le Wt.drop_len | (simp; done) | (unfold Wt.add; split <;> first | omega | exact Nat.le_of_eq Wt.ins_len)
    refine O.nil ?_
    refine J.blk ?_
    refine J.region ?_
    refine O.p (Pu.add' rfl rfl (by first | omega | (have h_ := Wt.ofJ_len (l := x) (j := j); omega))) rfl ?_
    refine O.p (Pu.move rfl) rfl ?_
    refine O.nil ?_
    exact J.lp ⟨k + 1, s6⟩ (show (k + 1) ≤ (Wt.ofJ x j).length ∧ Wt.Rep (Wt.cut x (Wt.ofJ x j) (k + 1)) s6 from ⟨by omega, (by rw [Wt.cut_next he5]; exact hR7)⟩) (show (Wt.ofJ x j).length - (k + 1) < (Wt.ofJ x j).length - k from (by omega)) ⟨rfl, rfl, rfl, rfl, rfl, (congrArg (fun z => some (Value.int .i64 z)) (by first | rfl | omega : ((k : Int) + 1 : Int) = ((k + 1) : Int))), trivial⟩ [0, 1] (by decide) rfl
  ·
    have p9 := of_decide_eq_false h3
    refine J.exit _ rfl ?_
    refine J.seq ?_
    refine J.region ?_
    refine O.p (Pu.move rfl) rfl ?_
    refine O.p (Pu.assign rfl) rfl ?_
    refine O.nil ?_
    exact J.ret (Fin.ret (rs := [.tmp 4]) rfl [_] ⟨rfl, trivial⟩ [1, 0] (by decide) [row v1 3 1 ((Wt.ofJ x j).map encZ), wt 62 p s1] rfl ⟨s1, (by rw [← Wt.cut_drop hR.up (k := k) (by omega)]; exact hR1), rfl⟩)

set_option maxRecDepth 100000 in
theorem w_DropNil (j : Int) : Tri Try.prog 22 #[Value.pointer none, .int .i64 j] [] [] (fun v L' => L' = [row v 3 1 (([] : List Int).map encZ)]) := by
  refine Tri.enter (args := [Value.pointer none, .int .i64 j]) (body := _) 22 Try.func22 rfl Try.ntmps22 rfl ?_
  intro w0
  refine J.seq ?_
  refine J.region ?_
  refine O.p (Pu.assign rfl) rfl ?_
  refine O.nil ?_
  refine J.seq ?_
  refine J.region ?_
  refine O.p (Pu.move rfl) rfl ?_
  refine O.p (Pu.move rfl) rfl ?_
  refine O.l (Lo.call [Value.pointer none, .int .i64 j] (by exact Try.call18) rfl (w_OfNil j) [] [] (by decide) rfl [] rfl RoOk.nil) rfl ?_
  rintro v1 _ ⟨_, rfl, rfl⟩
  refine O.p (Pu.assign rfl) rfl ?_
  refine O.nil ?_
  refine J.seq ?_
  refine J.seq ?_
  refine J.region ?_
  refine O.p (Pu.move rfl) rfl ?_
  refine O.q (Qt.lenM Try.runUnderlying24 rfl (Src.row 0 rfl)) rfl ?_
  refine O.p (Pu.move rfl) rfl ?_
  refine O.nil ?_
  refine J.block ?_
  refine J.loop (X := Nat) (fun ξ => ξ = 0) (fun ξ => [(0, Value.pointer none), (4, Value.slice none 0 0), (5, v1), (11, v1), (12, .int .i64 0), (13, .int .i64 (ξ : Int))]) (fun ξ => [row v1 3 1 (([] : List Int).map encZ)]) (fun ξ => 0) 0 (show 0 = 0 from rfl) ⟨rfl, rfl, rfl, rfl, rfl, (congrArg (fun z => some (Value.int .i64 z)) (by first | rfl | omega : (0 : Int) = (0 : Int))), trivial⟩ [0] (by decide) rfl ?_
  rintro k hq2
  have hkz : k = 0 := hq2
  show J _ _ [(0, Value.pointer none), (4, Value.slice none 0 0), (5, v1), (11, v1), (12, .int .i64 0), (13, .int .i64 (k : Int))] [row v1 3 1 (([] : List Int).map encZ)]
  refine J.seq ?_
  refine J.region ?_
  refine O.p (Pu.lss rfl rfl) rfl ?_
  refine O.nil ?_
  refine J.seq ?_
  refine J.condF rfl (decide_eq_false (by omega)) ?_
  refine J.exit _ rfl ?_
  refine J.seq ?_
  refine J.region ?_
  refine O.p (Pu.move rfl) rfl ?_
  refine O.p (Pu.assign rfl) rfl ?_
  refine O.nil ?_
  exact J.ret (Fin.ret (rs := [.tmp 4]) rfl [_] ⟨rfl, trivial⟩ [0] (by decide) [row v1 3 1 (([] : List Int).map encZ)] rfl rfl)

set_option maxRecDepth 100000 in
theorem w_DropOdd (p : Nat) (j : Int) : Tri Try.prog 22 #[.pointer (some ⟨p, 0, none⟩), .int .i64 j] [var p [Value.map none, Value.map none] 62] [] (fun v L' => L' = [row v 3 1 (([] : List Int).map encZ)]) := by
  refine Tri.enter (args := [.pointer (some ⟨p, 0, none⟩), .int .i64 j]) (body := _) 22 Try.func22 rfl Try.ntmps22 rfl ?_
  intro w0
  refine J.seq ?_
  refine J.region ?_
  refine O.p (Pu.assign rfl) rfl ?_
  refine O.nil ?_
  refine J.seq ?_
  refine J.region ?_
  refine O.p (Pu.move rfl) rfl ?_
  refine O.p (Pu.move rfl) rfl ?_
  refine O.l (Lo.call [.pointer (some ⟨p, 0, none⟩), .int .i64 j] (by exact Try.call18) rfl (w_OfOdd p j) [] [] (by decide) rfl [] rfl (RoOk.ro 0 rfl [] rfl RoOk.nil)) rfl ?_
  rintro v1 _ ⟨_, rfl, rfl⟩
  refine O.p (Pu.assign rfl) rfl ?_
  refine O.nil ?_
  refine J.seq ?_
  refine J.seq ?_
  refine J.region ?_
  refine O.p (Pu.move rfl) rfl ?_
  refine O.q (Qt.lenM Try.runUnderlying24 rfl (Src.row 0 rfl)) rfl ?_
  refine O.p (Pu.move rfl) rfl ?_
  refine O.nil ?_
  refine J.block ?_
  refine J.loop (X := Nat) (fun ξ => ξ = 0) (fun ξ => [(0, .pointer (some ⟨p, 0, none⟩)), (4, Value.slice none 0 0), (5, v1), (11, v1), (12, .int .i64 0), (13, .int .i64 (ξ : Int))]) (fun ξ => [row v1 3 1 (([] : List Int).map encZ)]) (fun ξ => 0) 0 (show 0 = 0 from rfl) ⟨rfl, rfl, rfl, rfl, rfl, (congrArg (fun z => some (Value.int .i64 z)) (by first | rfl | omega : (0 : Int) = (0 : Int))), trivial⟩ [0] (by decide) rfl ?_
  rintro k hq2
  have hkz : k = 0 := hq2
  show J _ _ [(0, .pointer (some ⟨p, 0, none⟩)), (4, Value.slice none 0 0), (5, v1), (11, v1), (12, .int .i64 0), (13, .int .i64 (k : Int))] [row v1 3 1 (([] : List Int).map encZ)]
  refine J.seq ?_
  refine J.region ?_
  refine O.p (Pu.lss rfl rfl) rfl ?_
  refine O.nil ?_
  refine J.seq ?_
  refine J.condF rfl (decide_eq_false (by omega)) ?_
  refine J.exit _ rfl ?_
  refine J.seq ?_
  refine J.region ?_
  refine O.p (Pu.move rfl) rfl ?_
  refine O.p (Pu.assign rfl) rfl ?_
  refine O.nil ?_
  exact J.ret (Fin.ret (rs := [.tmp 4]) rfl [_] ⟨rfl, trivial⟩ [0] (by decide) [row v1 3 1 (([] : List Int).map encZ)] rfl rfl)

end Go.Proofs.Ytnkhmbbnabejhaa
