/-
  Walks, printed by a program of mine (lk.py): each function meets its contract.
-/
import Derived.KernelRfl
import Derived.Test.YtnkhmbbnabejhaaGreatDoorKX1
import Derived.Test.YtnkhmbbnabejhaaGreatDoorConfA
import Derived.Test.YtnkhmbbnabejhaaGreatDoorLkD
namespace Go.Proofs.YtnkhmbbnabejhaaGreatDoor
open Go Go.LK Go.Proofs.Tryz
set_option linter.unusedSimpArgs false

set_option maxRecDepth 100000 in
theorem sl_HasPrefix (s p : List UInt8) : Tri prog 93 #[str s, str p] [] [] (fun v L' => v = .bool (Cf.hasP p s) ∧ L' = []) := by
 refine Tri.enter (args := [str s, str p]) (body := _) 18 func93 rfl ntmps93 rfl ?_
 intro w0
 refine J.seq <| J.region <| O.a rfl rfl <| O.nil <| J.seq <| J.region <| O.m rfl rfl <| O.p (Pu.sLen runUnderlying9 rfl) rfl <| O.m rfl rfl <| O.p (Pu.sLen runUnderlying9 rfl) rfl <| O.p (Pu.geq rfl rfl) rfl <| O.m rfl rfl ?_
 refine by_bool (decide ((p.length : Int) ≤ (s.length : Int))) (fun h1 => ?_) (fun h1 => ?_)
 ·
  have p2 := of_decide_eq_true h1
  refine O.gq (t := 10) rfl rfl h1 rfl (Pu.qt (Pu.move rfl)) rfl <| O.gq (t := 10) rfl rfl h1 rfl (Pu.qt (Pu.move rfl)) rfl <| O.gq (t := 10) rfl rfl h1 rfl (Pu.qt (Pu.sLen runUnderlying9 rfl)) rfl <| O.gq (t := 10) rfl rfl h1 rfl (Pu.qt (Pu.sHead runUnderlying9 rfl rfl (by first | omega | (simp only [List.length_append, List.length_cons, List.length_nil, List.length_set]; omega)) (by first | omega | (simp only [List.length_append, List.length_cons, List.length_nil, List.length_set]; omega)))) rfl <| O.gq (t := 10) rfl rfl h1 rfl (Pu.qt (Pu.move rfl)) rfl <| O.gq (t := 10) rfl rfl h1 rfl (Pu.qt (Pu.sEql rfl rfl)) rfl <| O.p (Pu.pickT rfl h1 rfl) rfl <| O.a rfl rfl <| O.nil ?_
  exact J.ret (Fin.ret (rs := [.tmp 4]) rfl [_] ⟨rfl, trivial⟩ [] (by decide) [] rfl ⟨(by first | (rw [Cf.hasP_of (by omega), ← Int.toNat_natCast p.length]; rfl) | (rw [Cf.hasP_short (by omega)]; rfl)), rfl⟩)
 ·
  have p3 := of_decide_eq_false h1
  refine O.gskip (t := 10) rfl rfl (no_bool (by rw [h1]; decide)) rfl rfl <| O.gskip (t := 10) rfl rfl (no_bool (by rw [h1]; decide)) rfl rfl <| O.gskip (t := 10) rfl rfl (no_bool (by rw [h1]; decide)) rfl rfl <| O.gskip (t := 10) rfl rfl (no_bool (by rw [h1]; decide)) rfl rfl <| O.gskip (t := 10) rfl rfl (no_bool (by rw [h1]; decide)) rfl rfl <| O.gskip (t := 10) rfl rfl (no_bool (by rw [h1]; decide)) rfl rfl <| O.p (Pu.pickF rfl h1 rfl) rfl <| O.a rfl rfl <| O.nil ?_
  exact J.ret (Fin.ret (rs := [.tmp 4]) rfl [_] ⟨rfl, trivial⟩ [] (by decide) [] rfl ⟨(by first | (rw [Cf.hasP_of (by omega), ← Int.toNat_natCast p.length]; rfl) | (rw [Cf.hasP_short (by omega)]; rfl)), rfl⟩)

set_option maxRecDepth 100000 in
theorem sl_CutPrefix (s p : List UInt8) : Tri prog 75 #[str s, str p] [] [] (fun v L' => v = .tuple #[str (Cf.cutPre s p).1, .bool (Cf.cutPre s p).2] ∧ L' = []) := by
 refine Tri.enter (args := [str s, str p]) (body := _) 15 func75 rfl ntmps75 rfl ?_
 intro w0
 refine J.seq <| J.region <| O.a rfl rfl <| O.a rfl rfl <| O.nil <| J.seq <| J.seq <| J.region <| O.m rfl rfl <| O.m rfl rfl <| O.l (Lo.call [str s, str p] (by exact call93) rfl (sl_HasPrefix s p) [] [] (by decide) rfl [] rfl RoOk.nil) rfl ?_
 rintro _ _ ⟨_, ⟨rfl, rfl⟩, rfl⟩
 refine O.p (Pu.not rfl) rfl <| O.nil ?_
 refine J.cond rfl (fun h2 => ?_) (fun h2 => ?_)
 ·
  have h3 : (Cf.hasP p s) = false := not_flip h2
  refine J.seq <| J.region <| O.m rfl rfl <| O.a rfl rfl <| O.a rfl rfl <| O.nil ?_
  exact J.ret (Fin.ret (rs := [.tmp 4, .tmp 5]) rfl [_, _] ⟨rfl, rfl, trivial⟩ [] (by decide) [] rfl ⟨(by first | (rw [Cf.cutPre_no ‹_›]; rfl) | (rw [Cf.cutPre_yes ‹_›]; rfl)), rfl⟩)
 ·
  have h4 : (Cf.hasP p s) = true := not_flip h2
  refine J.skip <| J.seq <| J.region <| O.m rfl rfl <| O.m rfl rfl <| O.p (Pu.sLen runUnderlying9 rfl) rfl <| O.p (Pu.sTail runUnderlying9 rfl rfl (by first | omega | (have h_ := Cf.hasP_len ‹_›; omega)) (by first | omega | (have h_ := Cf.hasP_len ‹_›; omega))) rfl <| O.a rfl rfl <| O.a rfl rfl <| O.nil ?_
  exact J.ret (Fin.ret (rs := [.tmp 4, .tmp 5]) rfl [_, _] ⟨rfl, rfl, trivial⟩ [] (by decide) [] rfl ⟨(by first | (rw [Cf.cutPre_no ‹_›]; rfl) | (rw [Cf.cutPre_yes ‹_›]; rfl)), rfl⟩)

set_option maxRecDepth 100000 in
theorem s_CutPrefix (s p : List UInt8) : Tri prog 53 #[str s, str p] [] [] (fun v L' => v = .tuple #[str (Cf.cutPre s p).1, .bool (Cf.cutPre s p).2] ∧ L' = []) := by
 refine Tri.enter (args := [str s, str p]) (body := _) 11 func53 rfl ntmps53 rfl ?_
 intro w0
 refine J.seq <| J.region <| O.a rfl rfl <| O.a rfl rfl <| O.nil <| J.seq <| J.region <| O.m rfl rfl <| O.m rfl rfl <| O.l (Lo.call [str s, str p] (by exact call75) rfl (sl_CutPrefix s p) [] [] (by decide) rfl [] rfl RoOk.nil) rfl ?_
 rintro _ _ ⟨_, ⟨rfl, rfl⟩, rfl⟩
 refine O.p (Pu.extract rfl rfl) rfl <| O.p (Pu.extract rfl rfl) rfl <| O.a rfl rfl <| O.a rfl rfl <| O.nil ?_
 exact J.ret (Fin.ret (rs := [.tmp 4, .tmp 5]) rfl [_, _] ⟨rfl, rfl, trivial⟩ [] (by decide) [] rfl ⟨rfl, rfl⟩)

set_option maxRecDepth 100000 in
theorem cf_Row (word : Wd.Bs) (nv : Value) (ns : List Wd.Bs) (lv : Value) (l : List Int) (hw : word.length ≤ 60000) (hns : ∀ x ∈ ns, x.length ≤ 60000) (hn : ns.length ≤ 900) (hl : l.length ≤ 900) (hI : Kn.I64s l) : Tri prog 26 #[str word, nv, lv] [libW, rd nv 1 (ns.map encS), rd lv 1 (l.map encZ)] [] (fun v L' => v = str (Cf.row word ns l) ∧ L' = []) := by
 refine Tri.enter (args := [str word, nv, lv]) (body := _) 36 func26 rfl ntmps26 rfl ?_
 intro w0
 refine J.seq <| J.region <| O.a rfl rfl <| O.nil <| J.seq <| J.region <| O.m rfl rfl <| O.l (Lo.buildM (s := 1) encS [word] [(0, str word)] (by exact runUnderlying50) (by exact sizeOf9) (by exact zeroValue9) rfl rfl rfl (by kernel_rfl) rfl rfl) rfl ?_
 rintro V1 _ rfl
 refine O.a rfl rfl <| O.nil <| J.seq <| J.seq <| J.region <| O.m rfl rfl <| O.q (Qt.lenM runUnderlying50 rfl (Src.ro 1 rfl)) rfl <| O.m rfl rfl <| O.q (Qt.lenM runUnderlying34 rfl (Src.ro 2 rfl)) rfl <| O.p (Pu.to (Pu.min rfl rfl) (congrArg (Value.int .i64) (show (if (l.length : Int) < (ns.length : Int) then (l.length : Int) else (ns.length : Int)) = ((min ns.length l.length : Nat) : Int) from (by split <;> omega)))) rfl <| O.m rfl rfl <| O.nil ?_
 refine J.block <| J.loop (X := Nat × Value × List Wd.Bs) (fun ξ => ξ.1 ≤ min ns.length l.length ∧ ξ.2.2 = (Cf.rowW word ns l).take (ξ.1 + 1)) (fun ξ => [(1, nv), (2, lv), (6, str ([] : List UInt8)), (7, ξ.2.1), (15, .int .i64 ((min ns.length l.length : Nat) : Int)), (16, .int .i64 (ξ.1 : Int))]) (fun ξ => [row ξ.2.1 9 1 (ξ.2.2.map encS)]) (fun ξ => min ns.length l.length - ξ.1) ⟨0, V1, [word]⟩ (show 0 ≤ min ns.length l.length ∧ ([word]) = (Cf.rowW word ns l).take (0 + 1) from ⟨by omega, rfl⟩) ⟨rfl, rfl, rfl, rfl, rfl, (congrArg (fun z => some (Value.int .i64 z)) (by first | rfl | omega : (0 : Int) = (0 : Int))), trivial⟩ [0] (by decide) rfl ?_
 rintro ⟨k, V, out⟩ hq2
 obtain ⟨hk, hout⟩ : k ≤ min ns.length l.length ∧ out = (Cf.rowW word ns l).take (k + 1) := hq2
 show J _ _ [(1, nv), (2, lv), (6, str ([] : List UInt8)), (7, V), (15, .int .i64 ((min ns.length l.length : Nat) : Int)), (16, .int .i64 (k : Int))] [row V 9 1 (out.map encS)]
 refine J.seq <| J.region <| O.p (Pu.lss rfl rfl) rfl <| O.nil <| J.seq ?_
 refine J.cond rfl (fun h3 => ?_) (fun h3 => ?_)
 ·
  have p4 := of_decide_eq_true h3
  refine J.skip <| J.seq <| J.block <| J.seq <| J.region <| O.m rfl rfl <| O.a rfl rfl <| O.nil <| J.drawMix [(0, false), (1, false), (2, false), (3, false), (4, false), (5, false), (6, false), (7, false), (8, false), (9, false), (10, false), (11, false), (12, true), (13, true), (14, false)] [] [] Tryz.mixed (by kernel_rfl) (by decide) rfl <| Mx.p rfl (Pu.move rfl) rfl <| Mx.p rfl (Pu.move rfl) rfl <| Mx.p rfl (Pu.move rfl) rfl ?_
  obtain ⟨e5, he5⟩ : ∃ x_, ns[k]? = some x_ := ⟨_, List.getElem?_eq_getElem (by first | omega | (have hx_ := hI _ (List.mem_of_getElem? ‹_›); unfold Dc.I64 at hx_; omega) | (have ho_ := congrArg List.length hout; rw [List.length_take] at ho_; simp only [List.length_append, List.length_cons, List.length_nil]; omega))⟩
  refine Mx.q rfl (Qt.idxM runUnderlying50 sizeOf9 rfl (Src.ro 1 rfl) rfl (by first | omega | (have hx_ := hI _ (List.mem_of_getElem? ‹_›); unfold Dc.I64 at hx_; omega) | (have ho_ := congrArg List.length hout; rw [List.length_take] at ho_; simp only [List.length_append, List.length_cons, List.length_nil]; omega)) (by first | omega | (have hx_ := hI _ (List.mem_of_getElem? ‹_›); unfold Dc.I64 at hx_; omega) | (have ho_ := congrArg List.length hout; rw [List.length_take] at ho_; simp only [List.length_append, List.length_cons, List.length_nil]; omega))) rfl <| Mx.q rfl (Qt.ld rfl (Cel.eltM (Src.ro 1 rfl) he5) (o := (voff nv + k * 1)) (off := 0) (by omega) (Cut.one isAgg9 rfl)) rfl <| Mx.p rfl (Pu.sAdd rfl rfl (by have h1_ := hns _ (List.mem_of_getElem? ‹_›); first | (simp only [List.length_append, List.length_cons, List.length_nil]; omega) | (have h2_ := Wd.itoa_le2 (hI _ (List.mem_of_getElem? ‹_›)); simp only [List.length_append, List.length_cons, List.length_nil]; omega))) rfl <| Mx.p rfl (Pu.move rfl) rfl <| Mx.p rfl (Pu.move rfl) rfl ?_
  obtain ⟨e6, he6⟩ : ∃ x_, l[k]? = some x_ := ⟨_, List.getElem?_eq_getElem (by first | omega | (have hx_ := hI _ (List.mem_of_getElem? ‹_›); unfold Dc.I64 at hx_; omega) | (have ho_ := congrArg List.length hout; rw [List.length_take] at ho_; simp only [List.length_append, List.length_cons, List.length_nil]; omega))⟩
  refine Mx.q rfl (Qt.idxM runUnderlying34 sizeOf3 rfl (Src.ro 2 rfl) rfl (by first | omega | (have hx_ := hI _ (List.mem_of_getElem? ‹_›); unfold Dc.I64 at hx_; omega) | (have ho_ := congrArg List.length hout; rw [List.length_take] at ho_; simp only [List.length_append, List.length_cons, List.length_nil]; omega)) (by first | omega | (have hx_ := hI _ (List.mem_of_getElem? ‹_›); unfold Dc.I64 at hx_; omega) | (have ho_ := congrArg List.length hout; rw [List.length_take] at ho_; simp only [List.length_append, List.length_cons, List.length_nil]; omega))) rfl <| Mx.q rfl (Qt.ld rfl (Cel.eltM (Src.ro 2 rfl) he6) (o := (voff lv + k * 1)) (off := 0) (by omega) (Cut.one isAgg3 rfl)) rfl <| Mx.call (vs := [.int .i64 e6]) (caps := []) rfl (by exact call47) rfl rfl (dec_Text e6 (by first | omega | (have hx_ := hI _ (List.mem_of_getElem? ‹_›); unfold Dc.I64 at hx_; omega) | (have ho_ := congrArg List.length hout; rw [List.length_take] at ho_; simp only [List.length_append, List.length_cons, List.length_nil]; omega)) (by first | omega | (have hx_ := hI _ (List.mem_of_getElem? ‹_›); unfold Dc.I64 at hx_; omega) | (have ho_ := congrArg List.length hout; rw [List.length_take] at ho_; simp only [List.length_append, List.length_cons, List.length_nil]; omega))) (fun _ _ h => h) (RoOk.ro 0 rfl [] rfl RoOk.nil) rfl <| Mx.p rfl (Pu.sAdd rfl rfl (by have h1_ := hns _ (List.mem_of_getElem? ‹_›); first | (simp only [List.length_append, List.length_cons, List.length_nil]; omega) | (have h2_ := Wd.itoa_le2 (hI _ (List.mem_of_getElem? ‹_›)); simp only [List.length_append, List.length_cons, List.length_nil]; omega))) rfl <| Mx.l rfl (Lo.buildM (s := 1) encS [(e5 ++ ([61])) ++ (Lib.itoa e6)] [(0, str ((e5 ++ ([61])) ++ (Lib.itoa e6)))] (by exact runUnderlying50) (by exact sizeOf9) (by exact zeroValue9) rfl rfl rfl (by kernel_rfl) rfl rfl) rfl ?_
  rintro V7 _ rfl
  refine MxK.go [] [] [] (by decide) rfl (by decide) rfl <| Mx.l rfl (Lo.appendM (s := 1) 1 (by exact underlying50) (by exact (info9).1) (by exact (info9).2.1) (by exact (info9).2.2.1) (by exact (info9).2.2.2) rfl rfl rfl rfl rfl (Src.row 0 rfl) encS.one (by first | omega | (have hx_ := hI _ (List.mem_of_getElem? ‹_›); unfold Dc.I64 at hx_; omega) | (have ho_ := congrArg List.length hout; rw [List.length_take] at ho_; simp only [List.length_append, List.length_cons, List.length_nil]; omega)) (by first | omega | (have hx_ := hI _ (List.mem_of_getElem? ‹_›); unfold Dc.I64 at hx_; omega) | (have ho_ := congrArg List.length hout; rw [List.length_take] at ho_; simp only [List.length_append, List.length_cons, List.length_nil]; omega))) rfl ?_
  rintro V8 _ rfl
  refine MxK.go [] [] [] (by decide) rfl (by decide) rfl <| Mx.p rfl (Pu.assign rfl) rfl <| Mx.nil <| J.blk <| J.region <| O.p (Pu.add' rfl rfl (by first | omega | (simp only [List.length_append, List.length_cons, List.length_nil, List.length_set]; omega))) rfl <| O.m rfl rfl <| O.nil ?_
  exact J.lp ⟨k + 1, V8, out ++ ([(e5 ++ ([61])) ++ (Lib.itoa e6)])⟩ (show (k + 1) ≤ min ns.length l.length ∧ (out ++ ([(e5 ++ ([61])) ++ (Lib.itoa e6)])) = (Cf.rowW word ns l).take ((k + 1) + 1) from ⟨by omega, (by rw [hout]; exact (Cf.rowW_next he5 he6).symm)⟩) (show min ns.length l.length - (k + 1) < min ns.length l.length - k from (by first | omega | (have hx_ := hI _ (List.mem_of_getElem? ‹_›); unfold Dc.I64 at hx_; omega) | (have ho_ := congrArg List.length hout; rw [List.length_take] at ho_; simp only [List.length_append, List.length_cons, List.length_nil]; omega))) ⟨rfl, rfl, rfl, rfl, rfl, (congrArg (fun z => some (Value.int .i64 z)) (by first | rfl | omega : ((k : Int) + 1 : Int) = ((k + 1) : Int))), trivial⟩ [1] (by decide) rfl
 ·
  have p9 := of_decide_eq_false h3
  refine J.exit _ rfl <| J.seq <| J.region <| O.m rfl rfl <| O.l (Lo.call [V] (by exact call46) rfl (w_Join V out (by rw [hout]; simp [Cf.rowW]) (by rw [hout, List.length_take, Cf.rowW_len]; omega) (by intro x_ hx_; rw [hout] at hx_; have h_ := Cf.rowW_le hw hns hI x_ (List.mem_of_mem_take hx_); omega)) [] [0] (by decide) rfl [row V 9 1 (out.map encS)] rfl (RoOk.of 0 rfl row_rd [] (by decide) rfl RoOk.nil)) rfl ?_
  rintro _ _ ⟨_, ⟨rfl, rfl⟩, rfl⟩
  refine O.a rfl rfl <| O.nil ?_
  exact J.ret (Fin.ret (rs := [.tmp 6]) rfl [_] ⟨rfl, trivial⟩ [] (by decide) [] rfl ⟨(by rw [hout, Cf.rowW_all (by omega)]; rfl), rfl⟩)

end Go.Proofs.YtnkhmbbnabejhaaGreatDoor
