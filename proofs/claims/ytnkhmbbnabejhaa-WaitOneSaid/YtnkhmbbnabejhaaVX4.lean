/-
  Walks, printed by a program of mine (lk.py): each function meets its contract.
-/
import Derived.KernelRfl
import Derived.Test.YtnkhmbbnabejhaaVX3
namespace Go.Proofs.Ytnkhmbbnabejhaa
open Go Go.LK
set_option linter.unusedSimpArgs false

theorem wt_AddIs (p : Nat) (s : Ws) (x : List Pr) (hR : Wt.Rep x s) (c j : Int) (h : (Wt.jobOf x c).isSome = true) : Tri Try.prog 20 #[.pointer (some ⟨p, 0, none⟩), .int .i64 c, .int .i64 j] [] [wt 62 p s] (fun v L' => v = .bool false ∧ ∃ s', Wt.Rep x s' ∧ L' = [wt 62 p s']) := by
  have h1 := wt_Add p s x hR c j
  rw [h, Wt.add_is h] at h1; exact h1
theorem wt_AddNew (p : Nat) (s : Ws) (x : List Pr) (hR : Wt.Rep x s) (c j : Int) (h : (Wt.jobOf x c).isSome = false) : Tri Try.prog 20 #[.pointer (some ⟨p, 0, none⟩), .int .i64 c, .int .i64 j] [] [wt 62 p s] (fun v L' => v = .bool true ∧ ∃ s', Wt.Rep (Wt.ins x c j) s' ∧ L' = [wt 62 p s']) := by
  have h1 := wt_Add p s x hR c j
  rw [h, Wt.add_new h] at h1; exact h1
theorem wt_JobIs (p : Nat) (s : Ws) (x : List Pr) (hR : Wt.Rep x s) (c : Int) (h : (Wt.jobOf x c).isSome = true) : Tri Try.prog 19 #[.pointer (some ⟨p, 0, none⟩), .int .i64 c] [wt 62 p s] [] (fun v L' => v = .tuple #[.int .i64 ((Wt.jobOf x c).getD 0), .bool true] ∧ L' = []) := by
  rw [← h]; exact wt_Job p s x hR c
theorem wt_JobNo (p : Nat) (s : Ws) (x : List Pr) (hR : Wt.Rep x s) (c : Int) (h : (Wt.jobOf x c).isSome = false) : Tri Try.prog 19 #[.pointer (some ⟨p, 0, none⟩), .int .i64 c] [wt 62 p s] [] (fun v L' => v = .tuple #[.int .i64 ((Wt.jobOf x c).getD 0), .bool false] ∧ L' = []) := by
  rw [← h]; exact wt_Job p s x hR c
theorem wt_JobOne (p : Nat) (s : Ws) (x : List Pr) (hR : Wt.Rep x s) (c j : Int) (h : Wt.jobOf x c = some j) : Tri Try.prog 19 #[.pointer (some ⟨p, 0, none⟩), .int .i64 c] [wt 62 p s] [] (fun v L' => v = .tuple #[.int .i64 j, .bool true] ∧ L' = []) := by
  have h1 := wt_Job p s x hR c
  rw [h] at h1; exact h1

set_option maxRecDepth 100000 in
theorem law34_awake  : Tri Try.prog 16 #[] [] [] (fun v L' => v = .bool true ∧ L' = []) := by
  refine Tri.enter (args := []) (body := _) 45 Try.func16 rfl Try.ntmps16 rfl ?_
  intro w0
  refine J.seq ?_
  refine J.region ?_
  refine O.p (Pu.assign rfl) rfl ?_
  refine O.nil ?_
  refine J.seq ?_
  refine J.region ?_
  refine O.l (Lo.call [] (by exact Try.call17) rfl wt_New [] [] (by decide) rfl [] rfl RoOk.nil) rfl ?_
  rintro _ _ ⟨_, ⟨p1, s2, rfl, rfl, hR3⟩, rfl⟩
  refine O.p (Pu.assign rfl) rfl ?_
  refine O.nil ?_
  refine J.seq ?_
  refine J.region ?_
  refine O.p (Pu.move rfl) rfl ?_
  refine O.l (Lo.call [.pointer (some ⟨p1, 0, none⟩), .int .i64 5, .int .i64 1] (by exact Try.call20) rfl (wt_AddNew p1 s2 ([] : List Pr) hR3 5 1 (by decide)) [0] [] (by decide) rfl [] rfl RoOk.nil) rfl ?_
  rintro _ _ ⟨_, ⟨rfl, s5, hR6, rfl⟩, rfl⟩
  have hns5 : (Wt.ins ([] : List Pr) 5 1).length ≤ ([] : List Pr).length + 1 := by first | omega | exact Nat.le_of_eq Wt.ins_len | exact Nat.le_succ_of_le Wt.without_len | exact Nat.le_succ_of_le Wt.drop_len | (simp; done) | (unfold Wt.add; split <;> first | omega | exact Nat.le_of_eq Wt.ins_len)
  refine O.p (Pu.move rfl) rfl ?_
  refine O.l (Lo.call [.pointer (some ⟨p1, 0, none⟩), .int .i64 3, .int .i64 1] (by exact Try.call20) rfl (wt_AddNew p1 s5 (Wt.ins ([] : List Pr) 5 1) hR6 3 1 (by decide)) [0] [] (by decide) rfl [] rfl RoOk.nil) rfl ?_
  rintro _ _ ⟨_, ⟨rfl, s8, hR9, rfl⟩, rfl⟩
  have hns8 : (Wt.ins (Wt.ins ([] : List Pr) 5 1) 3 1).length ≤ (Wt.ins ([] : List Pr) 5 1).length + 1 := by first | omega | exact Nat.le_of_eq Wt.ins_len | exact Nat.le_succ_of_le Wt.without_len | exact Nat.le_succ_of_le Wt.drop_len | (simp; done) | (unfold Wt.add; split <;> first | omega | exact Nat.le_of_eq Wt.ins_len)
  refine O.p (Pu.move rfl) rfl ?_
  refine O.l (Lo.call [.pointer (some ⟨p1, 0, none⟩), .int .i64 5, .int .i64 2] (by exact Try.call20) rfl (wt_AddIs p1 s8 (Wt.ins (Wt.ins ([] : List Pr) 5 1) 3 1) hR9 5 2 (by decide)) [0] [] (by decide) rfl [] rfl RoOk.nil) rfl ?_
  rintro _ _ ⟨_, ⟨rfl, s11, hR12, rfl⟩, rfl⟩
  have hns11 : (Wt.ins (Wt.ins ([] : List Pr) 5 1) 3 1).length ≤ (Wt.ins (Wt.ins ([] : List Pr) 5 1) 3 1).length + 1 := by first | omega | exact Nat.le_of_eq Wt.ins_len | exact Nat.le_succ_of_le Wt.without_len | exact Nat.le_succ_of_le Wt.drop_len | (simp; done) | (unfold Wt.add; split <;> first | omega | exact Nat.le_of_eq Wt.ins_len)
  refine O.p (Pu.assign rfl) rfl ?_
  refine O.p (Pu.assign rfl) rfl ?_
  refine O.p (Pu.assign rfl) rfl ?_
  refine O.nil ?_
  refine J.seq ?_
  refine J.region ?_
  refine O.p (Pu.move rfl) rfl ?_
  refine O.l (Lo.call [.pointer (some ⟨p1, 0, none⟩), .int .i64 5] (by exact Try.call19) rfl (wt_Job p1 s11 (Wt.ins (Wt.ins ([] : List Pr) 5 1) 3 1) hR12 5) [] [0] (by decide) rfl [wt 62 p1 s11] rfl (RoOk.of 0 rfl same_rd [] (by decide) rfl RoOk.nil)) rfl ?_
  rintro _ _ ⟨_, ⟨rfl, rfl⟩, rfl⟩
  refine O.p (Pu.move rfl) rfl ?_
  refine O.p (Pu.extract rfl rfl) rfl ?_
  refine O.p (Pu.extract rfl rfl) rfl ?_
  refine O.p (Pu.assign rfl) rfl ?_
  refine O.p (Pu.assign rfl) rfl ?_
  refine O.nil ?_
  refine J.seq ?_
  refine J.region ?_
  refine O.p (Pu.move rfl) rfl ?_
  refine O.p (Pu.move rfl) rfl ?_
  refine O.gq (t := 20) rfl rfl rfl rfl (Pu.qt (Pu.move rfl)) rfl ?_
  refine O.p (Pu.pickT rfl rfl rfl) rfl ?_
  refine O.p (Pu.move rfl) rfl ?_
  refine O.gq (t := 23) rfl rfl rfl rfl (Pu.qt (Pu.move rfl)) rfl ?_
  refine O.gq (t := 23) rfl rfl rfl rfl (Pu.qt (Pu.not rfl)) rfl ?_
  refine O.p (Pu.pickT rfl rfl rfl) rfl ?_
  refine O.p (Pu.move rfl) rfl ?_
  refine O.gq (t := 27) rfl rfl rfl rfl (Pu.qt (Pu.move rfl)) rfl ?_
  refine O.gq (t := 27) rfl rfl rfl rfl (Pu.qt (Pu.eql rfl rfl)) rfl ?_
  refine O.p (Pu.pickT rfl rfl rfl) rfl ?_
  refine O.p (Pu.move rfl) rfl ?_
  refine O.gq (t := 31) rfl rfl (by decide) rfl (Pu.qt (Pu.move rfl)) rfl ?_
  refine O.p (Pu.pickT rfl (by decide) rfl) rfl ?_
  refine O.p (Pu.move rfl) rfl ?_
  refine O.gq (t := 34) rfl rfl (by decide) rfl (Pu.qt (Pu.move rfl)) rfl ?_
  refine O.gl (t := 34) rfl rfl (by decide) rfl (Lo.call [.pointer (some ⟨p1, 0, none⟩), .int .i64 1] (by exact Try.call18) rfl (wt_Of p1 s11 (Wt.ins (Wt.ins ([] : List Pr) 5 1) 3 1) hR12 1 (by decide)) [] [0] (by decide) rfl [wt 62 p1 s11] rfl (RoOk.of 0 rfl same_rd [] (by decide) rfl RoOk.nil)) rfl ?_
  rintro v15 _ ⟨_, rfl, rfl⟩
  refine O.gl (t := 34) rfl rfl (by decide) rfl (Lo.buildM (s := 1) encZ [3, 5] [(0, .int .i64 3), (1, .int .i64 5)] (by exact Try.runUnderlying24) (by exact Try.sizeOf3) (by exact Try.zeroValue3) rfl rfl rfl (by kernel_rfl) rfl rfl) rfl ?_
  rintro V16 _ rfl
  refine O.gl (t := 34) rfl rfl (by decide) rfl (Lo.call [v15, V16] (by exact Try.call23) rfl (n01_Same v15 V16 (Wt.ofJ (Wt.ins (Wt.ins ([] : List Pr) 5 1) 3 1) 1) ([3, 5]) (by decide) (by decide)) [] [0, 1, 2] (by decide) rfl [row V16 3 1 (([3, 5]).map encZ), row v15 3 1 ((Wt.ofJ (Wt.ins (Wt.ins ([] : List Pr) 5 1) 3 1) 1).map encZ), wt 62 p1 s11] rfl (RoOk.of 1 rfl row_rd [] (by decide) rfl (RoOk.of 0 rfl row_rd [] (by decide) rfl RoOk.nil))) rfl ?_
  rintro _ _ ⟨_, ⟨rfl, rfl⟩, rfl⟩
  refine O.p (Pu.pickT rfl (by decide) rfl) rfl ?_
  refine O.p (Pu.move rfl) rfl ?_
  refine O.gq (t := 40) rfl rfl (by decide) rfl (Pu.qt (Pu.move rfl)) rfl ?_
  refine O.gl (t := 40) rfl rfl (by decide) rfl (Lo.call [.pointer (some ⟨p1, 0, none⟩)] (by exact Try.call30) rfl (wt_Len p1 s11 (Wt.ins (Wt.ins ([] : List Pr) 5 1) 3 1) hR12) [] [0, 1, 2] (by decide) rfl [row V16 3 1 (([3, 5]).map encZ), row v15 3 1 ((Wt.ofJ (Wt.ins (Wt.ins ([] : List Pr) 5 1) 3 1) 1).map encZ), wt 62 p1 s11] rfl (RoOk.of 2 rfl same_rd [] (by decide) rfl RoOk.nil)) rfl ?_
  rintro _ _ ⟨_, ⟨rfl, rfl⟩, rfl⟩
  refine O.gq (t := 40) rfl rfl (by decide) rfl (Pu.qt (Pu.eql rfl rfl)) rfl ?_
  refine O.p (Pu.pickT rfl (by decide) rfl) rfl ?_
  refine O.p (Pu.assign rfl) rfl ?_
  refine O.nil ?_
  exact J.ret (Fin.ret (rs := [.tmp 0]) rfl [_] ⟨rfl, trivial⟩ [] (by decide) [] rfl ⟨rfl, rfl⟩)

end Go.Proofs.Ytnkhmbbnabejhaa
