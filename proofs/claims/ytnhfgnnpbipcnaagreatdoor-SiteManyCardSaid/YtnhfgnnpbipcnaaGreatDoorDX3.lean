/-
  Walks, printed by a program of mine (lk.py): each function meets its contract.
-/
import Derived.KernelRfl
import Derived.Test.YtnhfgnnpbipcnaaGreatDoorNumsT
import Derived.Test.YtnhfgnnpbipcnaaGreatDoorHex0
import Derived.Test.YtnhfgnnpbipcnaaGreatDoorLkL
import Derived.Test.YtnhfgnnpbipcnaaGreatDoorWordsA
namespace Go.Proofs.YtnhfgnnpbipcnaaGreatDoor
open Go Go.LK Go.Proofs.Tryz
set_option linter.unusedSimpArgs false

set_option maxRecDepth 100000 in
theorem dec_value (c : UInt8) : Tri prog 112 #[.int .u8 (c.toNat : Int)] [var 0 (Hx.hexDigits.map valU8) 101] [] (fun v L' => v = .tuple #[.int .u64 (Nat.cast ((Hx.hv c).getD 0) : Int), .bool (Hx.hv c).isSome] ∧ L' = []) := by
 refine Tri.enter (args := [.int .u8 (c.toNat : Int)]) (body := _) 16 func112 rfl ntmps112 rfl ?_
 intro w0
 refine J.seq <| J.region <| O.a rfl rfl <| O.a rfl rfl <| O.nil <| J.seq <| J.seq <| J.region <| O.m rfl rfl <| O.nil <| J.block <| J.loop (X := Nat) (fun ξ => ξ ≤ 16 ∧ Hx.noHit c ξ) (fun ξ => [(0, .int .u8 (c.toNat : Int)), (5, .int .i64 (ξ : Int))]) (fun ξ => []) (fun ξ => 16 - ξ) 0 (show 0 ≤ 16 ∧ Hx.noHit c 0 from ⟨by omega, Hx.noHit_zero⟩) ⟨rfl, (congrArg (fun z => some (Value.int .i64 z)) (by first | rfl | omega : (0 : Int) = (0 : Int))), trivial⟩ [] (by decide) rfl ?_
 rintro i hq1
 obtain ⟨hi, hno⟩ : i ≤ 16 ∧ Hx.noHit c i := hq1
 show J _ _ [(0, .int .u8 (c.toNat : Int)), (5, .int .i64 (i : Int))] []
 refine J.seq <| J.region <| O.p (Pu.lss rfl rfl) rfl <| O.nil <| J.seq ?_
 refine J.cond rfl (fun h2 => ?_) (fun h2 => ?_)
 ·
  have p3 := of_decide_eq_true h2
  refine J.skip <| J.seq <| J.block <| J.seq <| J.region <| O.m rfl rfl <| O.a rfl rfl <| O.nil <| J.seq <| J.region <| O.m rfl rfl ?_
  obtain ⟨e4, he5⟩ : ∃ x_, Hx.hexDigits[((i : Int)).toNat]? = some x_ := ⟨_, List.getElem?_eq_getElem (by first | omega | (have hl_ : Hx.hexDigits.length = 16 := rfl; omega) | (simp only [List.length_append, List.length_replicate]; omega) | (simp only [List.length_append, List.length_replicate]; have hl_ := Hx.short hst; omega))⟩
  refine O.p (Pu.indexAddrG runUnderlying101 sizeOf5 rfl rfl (by first | omega | (have hl_ : Hx.hexDigits.length = 16 := rfl; omega) | (simp only [List.length_append, List.length_replicate]; omega) | (simp only [List.length_append, List.length_replicate]; have hl_ := Hx.short hst; omega)) (by first | omega | (have hl_ : Hx.hexDigits.length = 16 := rfl; omega) | (simp only [List.length_append, List.length_replicate]; omega) | (simp only [List.length_append, List.length_replicate]; have hl_ := Hx.short hst; omega))) rfl <| O.q (Qt.ld rfl (Cel.roVar 0 rfl) (o := 0) (off := ((i : Int)).toNat) (by omega) (Cut.one isAgg5 (at_map he5))) rfl <| O.m rfl rfl <| O.p (Pu.eql rfl rfl) rfl <| O.nil ?_
  refine J.cond rfl (fun h6 => ?_) (fun h6 => ?_)
  ·
   have p7 := of_decide_eq_true h6
   refine J.seq <| J.region <| O.m rfl rfl <| O.p (Pu.to (Pu.conv runUnderlying3 runUnderlying22 rfl) (congrArg (Value.int .u64) (Hx.u64_id (by omega)))) rfl <| O.a rfl rfl <| O.a rfl rfl <| O.nil ?_
   exact J.ret (Fin.ret (rs := [.tmp 2, .tmp 3]) rfl [_, _] ⟨rfl, rfl, trivial⟩ [] (by decide) [] rfl ⟨(by rw [Hx.value_hit (i := i) ‹_› (by omega)]; rfl), rfl⟩)
  ·
   have p8 := of_decide_eq_false h6
   refine J.skip <| J.blk <| J.region <| O.p (Pu.add' rfl rfl (by first | omega | (simp only [List.length_append, List.length_cons, List.length_nil, List.length_set]; omega))) rfl <| O.m rfl rfl <| O.nil ?_
   exact J.lp (i + 1) (show (i + 1) ≤ 16 ∧ Hx.noHit c (i + 1) from ⟨by omega, Hx.noHit_next hno ‹_› (by omega)⟩) (show 16 - (i + 1) < 16 - i from (by first | omega | (have hl_ : Hx.hexDigits.length = 16 := rfl; omega) | (simp only [List.length_append, List.length_replicate]; omega) | (simp only [List.length_append, List.length_replicate]; have hl_ := Hx.short hst; omega))) ⟨rfl, (congrArg (fun z => some (Value.int .i64 z)) (by first | rfl | omega : ((i : Int) + 1 : Int) = ((i + 1) : Int))), trivial⟩ [] (by decide) rfl
 ·
  have p9 := of_decide_eq_false h2
  refine J.exit _ rfl <| J.seq <| J.region <| O.a rfl rfl <| O.a rfl rfl <| O.nil ?_
  exact J.ret (Fin.ret (rs := [.tmp 2, .tmp 3]) rfl [_, _] ⟨rfl, rfl, trivial⟩ [] (by decide) [] rfl ⟨(by have hi_ : i = 16 := (by omega); subst hi_; rw [Hx.noHit_end hno]; rfl), rfl⟩)

set_option maxRecDepth 100000 in
theorem dec_Hex (n : Nat) (hn : n < 18446744073709551616) : Tri prog 38 #[.int .u64 (Nat.cast n : Int)] [var 0 (Hx.hexDigits.map valU8) 101] [] (fun v L' => v = str (Hx.hexL n 16) ∧ L' = []) := by
 refine Tri.enter (args := [.int .u64 (Nat.cast n : Int)]) (body := _) 20 func38 rfl ntmps38 rfl ?_
 intro w0
 refine J.seq <| J.region <| O.a rfl rfl <| O.nil <| J.seq <| J.region <| O.l (Lo.alloc [.int .u8 0, .int .u8 0, .int .u8 0, .int .u8 0, .int .u8 0, .int .u8 0, .int .u8 0, .int .u8 0, .int .u8 0, .int .u8 0, .int .u8 0, .int .u8 0, .int .u8 0, .int .u8 0, .int .u8 0, .int .u8 0] (by exact zeroValue101) rfl) rfl ?_
 rintro _ _ ⟨g1, rfl, rfl⟩
 refine O.nil <| J.seq <| J.seq <| J.region <| O.m rfl rfl <| O.nil <| J.block <| J.loop (X := Nat × Nat × List UInt8) (fun ξ => ξ.1 ≤ 16 ∧ ξ.2.1 < 18446744073709551616 ∧ Hx.hexL ξ.2.1 (16 - ξ.1) ++ ξ.2.2 = Hx.hexL n 16 ∧ ξ.2.2.length = ξ.1) (fun ξ => [(0, .int .u64 (Nat.cast ξ.2.1 : Int)), (2, str ([] : List UInt8)), (3, .pointer (some ⟨g1, 0, none⟩)), (5, .int .i64 (ξ.1 : Int))]) (fun ξ => [var g1 ((List.replicate (16 - ξ.1) 0 ++ ξ.2.2).map valU8) 101]) (fun ξ => 16 - ξ.1) ⟨0, n, ([] : List UInt8)⟩ (show 0 ≤ 16 ∧ n < 18446744073709551616 ∧ Hx.hexL n (16 - 0) ++ ([] : List UInt8) = Hx.hexL n 16 ∧ ([] : List UInt8).length = 0 from ⟨by omega, hn, by simp, rfl⟩) ⟨rfl, rfl, rfl, (congrArg (fun z => some (Value.int .i64 z)) (by first | rfl | omega : (0 : Int) = (0 : Int))), trivial⟩ [0] (by decide) rfl ?_
 rintro ⟨i, m, t⟩ hq2
 obtain ⟨hi, hm, hst, hlt⟩ : i ≤ 16 ∧ m < 18446744073709551616 ∧ Hx.hexL m (16 - i) ++ t = Hx.hexL n 16 ∧ t.length = i := hq2
 show J _ _ [(0, .int .u64 (Nat.cast m : Int)), (2, str ([] : List UInt8)), (3, .pointer (some ⟨g1, 0, none⟩)), (5, .int .i64 (i : Int))] [var g1 ((List.replicate (16 - i) 0 ++ t).map valU8) 101]
 refine J.seq <| J.region <| O.p (Pu.lss rfl rfl) rfl <| O.nil <| J.seq ?_
 refine J.cond rfl (fun h3 => ?_) (fun h3 => ?_)
 ·
  have p4 := of_decide_eq_true h3
  refine J.skip <| J.seq <| J.block <| J.seq <| J.region <| O.m rfl rfl <| O.a rfl rfl <| O.nil <| J.seq <| J.region <| O.m rfl rfl <| O.p (Pu.sub' rfl rfl (by omega)) rfl ?_
  refine O.m rfl rfl <| O.p (Pu.to (Pu.rem rfl rfl (by omega)) (congrArg (Value.int .u64) Hx.tmod_nat)) rfl ?_
  obtain ⟨e5, he6⟩ : ∃ x_, Hx.hexDigits[((Nat.cast (m % 16) : Int)).toNat]? = some x_ := ⟨_, List.getElem?_eq_getElem (by first | omega | (have hl_ : Hx.hexDigits.length = 16 := rfl; omega) | (simp only [List.length_append, List.length_replicate]; omega) | (simp only [List.length_append, List.length_replicate]; have hl_ := Hx.short hst; omega))⟩
  refine O.p (Pu.indexAddrG runUnderlying101 sizeOf5 rfl rfl (by first | omega | (have hl_ : Hx.hexDigits.length = 16 := rfl; omega) | (simp only [List.length_append, List.length_replicate]; omega) | (simp only [List.length_append, List.length_replicate]; have hl_ := Hx.short hst; omega)) (by first | omega | (have hl_ : Hx.hexDigits.length = 16 := rfl; omega) | (simp only [List.length_append, List.length_replicate]; omega) | (simp only [List.length_append, List.length_replicate]; have hl_ := Hx.short hst; omega))) rfl <| O.q (Qt.ld rfl (Cel.roVar 0 rfl) (o := 0) (off := ((Nat.cast (m % 16) : Int)).toNat) (by omega) (Cut.one isAgg5 (at_map he6))) rfl ?_
  obtain ⟨e7, he8⟩ : ∃ x_, (List.replicate (16 - i) 0 ++ t)[(15 - (i : Int)).toNat]? = some x_ := ⟨_, List.getElem?_eq_getElem (by first | omega | (have hl_ : Hx.hexDigits.length = 16 := rfl; omega) | (simp only [List.length_append, List.length_replicate]; omega) | (simp only [List.length_append, List.length_replicate]; have hl_ := Hx.short hst; omega))⟩
  refine O.p (Pu.indexAddrG runUnderlying101 sizeOf5 rfl rfl (by first | omega | (have hl_ : Hx.hexDigits.length = 16 := rfl; omega) | (simp only [List.length_append, List.length_replicate]; omega) | (simp only [List.length_append, List.length_replicate]; have hl_ := Hx.short hst; omega)) (by first | omega | (have hl_ : Hx.hexDigits.length = 16 := rfl; omega) | (simp only [List.length_append, List.length_replicate]; omega) | (simp only [List.length_append, List.length_replicate]; have hl_ := Hx.short hst; omega))) rfl <| O.l0 (Lo.store 0 (vs := [.int .u8 (e5.toNat : Int)]) (((List.replicate (16 - i) 0 ++ t).set (15 - (i : Int)).toNat e5).map valU8) rfl rfl rfl (by exact sizeOf5) rfl rfl rfl (set_cells1 (f := valU8) (x := e5) (l := List.replicate (16 - i) 0 ++ t) (by first | omega | (have hl_ : Hx.hexDigits.length = 16 := rfl; omega) | (simp only [List.length_append, List.length_replicate]; omega) | (simp only [List.length_append, List.length_replicate]; have hl_ := Hx.short hst; omega))) (set_fits (f := valU8) (l := List.replicate (16 - i) 0 ++ t) (by first | omega | (have hl_ : Hx.hexDigits.length = 16 := rfl; omega) | (simp only [List.length_append, List.length_replicate]; omega) | (simp only [List.length_append, List.length_replicate]; have hl_ := Hx.short hst; omega)))) ?_
  rintro _ _ rfl
  refine O.nil <| J.region <| O.m rfl rfl <| O.p (Pu.to (Pu.quo rfl rfl (by omega)) (congrArg (Value.int .u64) (Hx.quo_nat hm))) rfl <| O.a rfl rfl <| O.nil <| J.blk <| J.region <| O.p (Pu.add' rfl rfl (by omega)) rfl <| O.m rfl rfl <| O.nil ?_
  exact J.lp ⟨i + 1, m / 16, e5 :: t⟩ (show (i + 1) ≤ 16 ∧ (m / 16) < 18446744073709551616 ∧ Hx.hexL (m / 16) (16 - (i + 1)) ++ (e5 :: t) = Hx.hexL n 16 ∧ (e5 :: t).length = (i + 1) from ⟨by omega, by omega, Hx.hex_step (by omega) ‹_› hst, by simp [hlt]⟩) (show 16 - (i + 1) < 16 - i from (by first | omega | (have hl_ : Hx.hexDigits.length = 16 := rfl; omega) | (simp only [List.length_append, List.length_replicate]; omega) | (simp only [List.length_append, List.length_replicate]; have hl_ := Hx.short hst; omega))) ⟨rfl, rfl, rfl, (congrArg (fun z => some (Value.int .i64 z)) (by first | rfl | omega : ((i : Int) + 1 : Int) = ((i + 1) : Int))), trivial⟩ [0] (by decide) (congrArg (fun (z : List UInt8) => ([var g1 (z.map valU8) 101] : List Sp)) (Hx.put_at (i := i) (t := t) (x := e5) (by omega)))
 ·
  have p9 := of_decide_eq_false h3
  refine J.exit _ rfl <| J.seq <| J.region <| O.p (Pu.wholeArr runUnderlying101 sizeOf5 rfl) rfl <| O.q (Qt.bytesStr runUnderlying41 runUnderlying5 runUnderlying9 rfl (Cel.var 0 rfl) (by first | omega | (have hl_ : Hx.hexDigits.length = 16 := rfl; omega) | (simp only [List.length_append, List.length_replicate]; omega) | (simp only [List.length_append, List.length_replicate]; have hl_ := Hx.short hst; omega))) rfl <| O.a rfl rfl <| O.nil ?_
  exact J.ret (Fin.ret (rs := [.tmp 2]) rfl [_] ⟨rfl, trivial⟩ [] (by decide) [] rfl ⟨(by have hi_ : i = 16 := (by omega); subst hi_; exact congrArg str (Hx.hex_end rfl hst)), rfl⟩)

set_option maxRecDepth 100000 in
theorem dec_ParseHex (s : List UInt8) : Tri prog 83 #[str s] [var 0 (Hx.hexDigits.map valU8) 101] [] (fun v L' => v = .tuple #[.int .u64 (Nat.cast (Hx.parse s).1 : Int), .int .i64 (Hx.parse s).2] ∧ L' = []) := by
 refine Tri.enter (args := [str s]) (body := _) 29 func83 rfl ntmps83 rfl ?_
 intro w0
 refine J.seq <| J.region <| O.a rfl rfl <| O.a rfl rfl <| O.nil <| J.seq <| J.seq <| J.region <| O.m rfl rfl <| O.p (Pu.sLen runUnderlying9 rfl) rfl <| O.p (Pu.neq rfl rfl) rfl <| O.nil ?_
 refine J.cond rfl (fun h1 => ?_) (fun h1 => ?_)
 ·
  have p2 := of_decide_eq_true h1
  refine J.seq <| J.region <| O.a rfl rfl <| O.a rfl rfl <| O.nil ?_
  exact J.ret (Fin.ret (rs := [.tmp 2, .tmp 3]) rfl [_, _] ⟨rfl, rfl, trivial⟩ [] (by decide) [] rfl ⟨(by first | (rw [Hx.parse_len (by omega)]; rfl) | (rw [Hx.parse_not (by omega) hacc ‹_› ‹_›]; rfl) | (have hk_ : k = 16 := (by omega); subst hk_; rw [Hx.parse_bad (by omega) hacc hc ((Hx.found_end hfd).trans (Hx.dI_neg.1 (by omega)))]; rfl)), rfl⟩)
 ·
  have p3 := of_decide_eq_false h1
  refine J.skip <| J.seq <| J.region <| O.a rfl rfl <| O.nil <| J.seq <| J.seq <| J.region <| O.m rfl rfl <| O.nil <| J.block <| J.loop (X := Nat × Nat) (fun ξ => ξ.1 ≤ 16 ∧ Hx.accH s ξ.1 = some ξ.2) (fun ξ => [(0, str s), (4, .int .u64 (Nat.cast ξ.2 : Int)), (11, .int .i64 (ξ.1 : Int))]) (fun ξ => []) (fun ξ => 16 - ξ.1) ⟨0, 0⟩ (show 0 ≤ 16 ∧ Hx.accH s 0 = some 0 from ⟨by omega, rfl⟩) ⟨rfl, (congrArg (fun z => some (Value.int .u64 z)) (by first | rfl | omega : (0 : Int) = (Nat.cast 0 : Int))), (congrArg (fun z => some (Value.int .i64 z)) (by first | rfl | omega : (0 : Int) = (0 : Int))), trivial⟩ [] (by decide) rfl ?_
  rintro ⟨i, m⟩ hq4
  obtain ⟨hi, hacc⟩ : i ≤ 16 ∧ Hx.accH s i = some m := hq4
  show J _ _ [(0, str s), (4, .int .u64 (Nat.cast m : Int)), (11, .int .i64 (i : Int))] []
  refine J.seq <| J.region <| O.p (Pu.lss rfl rfl) rfl <| O.nil <| J.seq ?_
  refine J.cond rfl (fun h5 => ?_) (fun h5 => ?_)
  ·
   have p6 := of_decide_eq_true h5
   refine J.skip <| J.seq <| J.block <| J.seq <| J.region <| O.m rfl rfl <| O.a rfl rfl <| O.nil <| J.seq <| J.region <| O.m rfl rfl <| O.m rfl rfl ?_
   obtain ⟨b7, hb8⟩ : ∃ x_, s[((i : Int) : Int).toNat]? = some x_ := ⟨_, List.getElem?_eq_getElem (by first | omega | (have hl_ : Hx.hexDigits.length = 16 := rfl; omega) | (simp only [List.length_append, List.length_replicate]; omega) | (simp only [List.length_append, List.length_replicate]; have hl_ := Hx.short hst; omega))⟩
   refine O.p (Pu.sIdx runUnderlying9 rfl rfl (by first | omega | (have hl_ : Hx.hexDigits.length = 16 := rfl; omega) | (simp only [List.length_append, List.length_replicate]; omega) | (simp only [List.length_append, List.length_replicate]; have hl_ := Hx.short hst; omega)) hb8) rfl <| O.l (Lo.call [.int .u8 (b7.toNat : Int)] (by exact call112) rfl (dec_value b7) [] [] (by decide) rfl [] rfl (RoOk.ro 0 rfl [] rfl RoOk.nil)) rfl ?_
   rintro _ _ ⟨_, ⟨rfl, rfl⟩, rfl⟩
   refine O.m rfl rfl <| O.p (Pu.extract rfl rfl) rfl <| O.p (Pu.extract rfl rfl) rfl <| O.a rfl rfl <| O.a rfl rfl <| O.nil <| J.seq <| J.seq <| J.region <| O.m rfl rfl <| O.p (Pu.not rfl) rfl <| O.nil ?_
   refine J.cond rfl (fun h10 => ?_) (fun h10 => ?_)
   ·
    have h11 : ((Hx.hv b7).isSome) = false := not_flip h10
    refine J.seq <| J.region <| O.a rfl rfl <| O.a rfl rfl <| O.nil ?_
    exact J.ret (Fin.ret (rs := [.tmp 2, .tmp 3]) rfl [_, _] ⟨rfl, rfl, trivial⟩ [] (by decide) [] rfl ⟨(by first | (rw [Hx.parse_len (by omega)]; rfl) | (rw [Hx.parse_not (by omega) hacc ‹_› ‹_›]; rfl) | (have hk_ : k = 16 := (by omega); subst hk_; rw [Hx.parse_bad (by omega) hacc hc ((Hx.found_end hfd).trans (Hx.dI_neg.1 (by omega)))]; rfl)), rfl⟩)
   ·
    have h12 : ((Hx.hv b7).isSome) = true := not_flip h10
    refine J.skip <| J.region <| O.m rfl rfl <| O.p (Pu.to (Pu.mul rfl rfl) (congrArg (Value.int .u64) (Hx.mul_nat (Hx.acc_fit hacc (by omega))))) rfl <| O.m rfl rfl <| O.p (Pu.to (Pu.add rfl rfl) (congrArg (Value.int .u64) (Hx.add_nat (Hx.acc_fit hacc (by omega)) (Hx.getD_lt _)))) rfl <| O.a rfl rfl <| O.nil <| J.blk <| J.region <| O.p (Pu.add' rfl rfl (by first | omega | (simp only [List.length_append, List.length_cons, List.length_nil, List.length_set]; omega))) rfl <| O.m rfl rfl ?_
    refine O.nil ?_
    exact J.lp ⟨i + 1, m * 16 + (Hx.hv b7).getD 0⟩ (show (i + 1) ≤ 16 ∧ Hx.accH s (i + 1) = some (m * 16 + (Hx.hv b7).getD 0) from ⟨by omega, Hx.acc_some hacc ‹_› ‹_›⟩) (show 16 - (i + 1) < 16 - i from (by first | omega | (have hl_ : Hx.hexDigits.length = 16 := rfl; omega) | (simp only [List.length_append, List.length_replicate]; omega) | (simp only [List.length_append, List.length_replicate]; have hl_ := Hx.short hst; omega))) ⟨rfl, rfl, (congrArg (fun z => some (Value.int .i64 z)) (by first | rfl | omega : ((i : Int) + 1 : Int) = ((i + 1) : Int))), trivial⟩ [] (by decide) rfl
  ·
   have p13 := of_decide_eq_false h5
   refine J.exit _ rfl <| J.seq <| J.region <| O.m rfl rfl <| O.a rfl rfl <| O.a rfl rfl <| O.nil ?_
   exact J.ret (Fin.ret (rs := [.tmp 2, .tmp 3]) rfl [_, _] ⟨rfl, rfl, trivial⟩ [] (by decide) [] rfl ⟨(by have hi_ : i = 16 := (by omega); subst hi_; rw [Hx.parse_ok (by omega) hacc]; rfl), rfl⟩)

end Go.Proofs.YtnhfgnnpbipcnaaGreatDoor
