/-
  Walks, printed by a program of mine (lk.py): each function meets its contract.
-/
import Derived.KernelRfl
import Derived.Test.YtnhfgnnpbipcnaaGreatDoorNumsT
import Derived.Test.YtnhfgnnpbipcnaaGreatDoorHex0
import Derived.Test.YtnhfgnnpbipcnaaGreatDoorLkL
import Derived.Test.YtnhfgnnpbipcnaaGreatDoorWordsA
import Derived.Test.YtnhfgnnpbipcnaaGreatDoorFo
namespace Go.Proofs.YtnhfgnnpbipcnaaGreatDoor
open Go Go.LK
set_option linter.unusedSimpArgs false

set_option maxRecDepth 100000 in
theorem dec_value (c : UInt8) : Tri Tryz.prog 112 #[.int .u8 (c.toNat : Int)] [var 0 (Hx.hexDigits.map valU8) 101] [] (fun v L' => v = .tuple #[.int .u64 (Nat.cast ((Hx.hv c).getD 0) : Int), .bool (Hx.hv c).isSome] ∧ L' = []) := by
  refine Tri.en F112 rfl K112 rfl fun w0 => ?_
  refine J.cc 11 rfl ?_
  refine J.lo (X := Nat) (fun i => i ≤ 16 ∧ Hx.noHit c i) (fun i => [(5, .int .i64 (i : Int))]) (fun i => []) (fun i => 16 - i) 0 [0] [] [] ⟨by omega, Hx.noHit_zero⟩ ⟨(eqi (by omega)), trivial⟩ rfl rfl ?_
  rintro i ⟨hi, hno⟩
  refine J.cc 5 rfl ?_
  refine J.cd rfl (fun p1 => ?_) (fun p1 => ?_)
  ·
    refine J.co 11 rfl ?_
    obtain ⟨e2, he3⟩ := ex_at (l := Hx.hexDigits) (i := ((i : Int)).toNat) (by first | omega | (have hl_ : Hx.hexDigits.length = 16 := rfl; omega) | (simp only [List.length_append, List.length_replicate]; omega) | (simp only [List.length_append, List.length_replicate]; have hl_ := Hx.short hst; omega))
    refine O.p (Pu.indexAddrG U101 Z5 rfl rfl (by omega) (by omega)) rfl ?_
    refine O.q (Qt.ld rfl (Cel.roVar 0 rfl) (o := 0) (off := ((i : Int)).toNat) (by omega) (Cut.one A5 (at_map he3))) rfl ?_
    refine O.oc 3 rfl ?_
    refine J.cd rfl (fun p4 => ?_) (fun p4 => ?_)
    ·
      refine J.co 3 rfl ?_
      refine O.p (Pu.to (Pu.conv U3 U22 rfl) (congrArg (Value.int .u64) (Hx.u64_id (by omega)))) rfl ?_
      refine O.oc 3 rfl ?_
      exact J.rn [_, _] [] rfl ⟨rfl, rfl, trivial⟩ rfl ⟨(by rw [Hx.value_hit (i := i) (by assumption) (by omega)]; rfl), rfl⟩
    ·
      refine J.co 3 rfl ?_
      refine O.p (Pu.add' rfl rfl (by omega)) rfl ?_
      refine O.oc 2 rfl ?_
      exact J.lq (i + 1) [0] [] [] ⟨by omega, Hx.noHit_next hno (by assumption) (by omega)⟩ (by omega) ⟨(eqi (by omega)), trivial⟩ rfl rfl
  ·
    refine J.cc 6 rfl ?_
    exact J.rn [_, _] [] rfl ⟨rfl, rfl, trivial⟩ rfl ⟨(by have hi_ : i = 16 := (by omega); subst hi_; rw [Hx.noHit_end hno]; rfl), rfl⟩

set_option maxRecDepth 100000 in
theorem dec_Hex (n : Nat) (hn : n < 18446744073709551616) : Tri Tryz.prog 38 #[.int .u64 (Nat.cast n : Int)] [var 0 (Hx.hexDigits.map valU8) 101] [] (fun v L' => v = str (Hx.hexL n 16) ∧ L' = []) := by
  refine Tri.en F38 rfl K38 rfl fun w0 => ?_
  refine J.co 6 rfl ?_
  refine O.l (Lo.al Y101 rfl) rfl ?_
  rintro _ _ ⟨g1, rfl, rfl⟩
  refine O.oc 7 rfl ?_
  refine J.loop (X := Nat × Nat × List UInt8) (fun ξ => ξ.1 ≤ 16 ∧ ξ.2.1 < 18446744073709551616 ∧ Hx.hexL ξ.2.1 (16 - ξ.1) ++ ξ.2.2 = Hx.hexL n 16 ∧ ξ.2.2.length = ξ.1) (fun ξ => [(0, .int .u64 (Nat.cast ξ.2.1 : Int)), (2, str ([] : List UInt8)), (3, .pointer (some ⟨g1, 0, none⟩)), (5, .int .i64 (ξ.1 : Int))]) (fun ξ => [var g1 ((List.replicate (16 - ξ.1) 0 ++ ξ.2.2).map valU8) 101]) (fun ξ => 16 - ξ.1) ⟨0, n, ([] : List UInt8)⟩ (show 0 ≤ 16 ∧ n < 18446744073709551616 ∧ Hx.hexL n (16 - 0) ++ ([] : List UInt8) = Hx.hexL n 16 ∧ ([] : List UInt8).length = 0 from ⟨by omega, hn, by simp, rfl⟩) ⟨rfl, rfl, rfl, (congrArg (fun z => some (Value.int .i64 z)) (by first | rfl | omega : (0 : Int) = (0 : Int))), trivial⟩ [0] (by decide) rfl ?_
  rintro ⟨i, m, t⟩ hq2
  obtain ⟨hi, hm, hst, hlt⟩ : i ≤ 16 ∧ m < 18446744073709551616 ∧ Hx.hexL m (16 - i) ++ t = Hx.hexL n 16 ∧ t.length = i := hq2
  show J _ _ [(0, .int .u64 (Nat.cast m : Int)), (2, str ([] : List UInt8)), (3, .pointer (some ⟨g1, 0, none⟩)), (5, .int .i64 (i : Int))] [var g1 ((List.replicate (16 - i) 0 ++ t).map valU8) 101]
  refine J.cc 5 rfl ?_
  refine J.cd rfl (fun p3 => ?_) (fun p3 => ?_)
  ·
    refine J.co 11 rfl ?_
    refine O.p (Pu.sub' rfl rfl (by omega)) rfl ?_
    refine O.oo 1 rfl ?_
    refine O.p (Pu.to (Pu.rem rfl rfl (by omega)) (congrArg (Value.int .u64) Hx.tmod_nat)) rfl ?_
    obtain ⟨e4, he5⟩ := ex_at (l := Hx.hexDigits) (i := ((Nat.cast (m % 16) : Int)).toNat) (by first | omega | (have hl_ : Hx.hexDigits.length = 16 := rfl; omega) | (simp only [List.length_append, List.length_replicate]; omega) | (simp only [List.length_append, List.length_replicate]; have hl_ := Hx.short hst; omega))
    refine O.p (Pu.indexAddrG U101 Z5 rfl rfl (by omega) (by omega)) rfl ?_
    refine O.q (Qt.ld rfl (Cel.roVar 0 rfl) (o := 0) (off := ((Nat.cast (m % 16) : Int)).toNat) (by omega) (Cut.one A5 (at_map he5))) rfl ?_
    obtain ⟨e6, he7⟩ := ex_at (l := List.replicate (16 - i) 0 ++ t) (i := (15 - (i : Int)).toNat) (by first | omega | (have hl_ : Hx.hexDigits.length = 16 := rfl; omega) | (simp only [List.length_append, List.length_replicate]; omega) | (simp only [List.length_append, List.length_replicate]; have hl_ := Hx.short hst; omega))
    refine O.p (Pu.indexAddrG U101 Z5 rfl rfl (by omega) (by omega)) rfl ?_
    refine O.l0 (Lo.store 0 (vs := [.int .u8 (e4.toNat : Int)]) (((List.replicate (16 - i) 0 ++ t).set (15 - (i : Int)).toNat e4).map valU8) rfl rfl rfl Z5 rfl rfl rfl (set_cells1 (f := valU8) (x := e4) (l := List.replicate (16 - i) 0 ++ t) (by first | omega | (have hl_ : Hx.hexDigits.length = 16 := rfl; omega) | (simp only [List.length_append, List.length_replicate]; omega) | (simp only [List.length_append, List.length_replicate]; have hl_ := Hx.short hst; omega))) (set_fits (f := valU8) (l := List.replicate (16 - i) 0 ++ t) (by first | omega | (have hl_ : Hx.hexDigits.length = 16 := rfl; omega) | (simp only [List.length_append, List.length_replicate]; omega) | (simp only [List.length_append, List.length_replicate]; have hl_ := Hx.short hst; omega)))) ?_
    rintro _ _ rfl
    refine O.oo 3 rfl ?_
    refine O.p (Pu.to (Pu.quo rfl rfl (by omega)) (congrArg (Value.int .u64) (Hx.quo_nat hm))) rfl ?_
    refine O.oo 4 rfl ?_
    refine O.p (Pu.add' rfl rfl (by omega)) rfl ?_
    refine O.oc 2 rfl ?_
    exact J.lp ⟨i + 1, m / 16, e4 :: t⟩ (show (i + 1) ≤ 16 ∧ (m / 16) < 18446744073709551616 ∧ Hx.hexL (m / 16) (16 - (i + 1)) ++ (e4 :: t) = Hx.hexL n 16 ∧ (e4 :: t).length = (i + 1) from ⟨by omega, by omega, Hx.hex_step (by omega) (by assumption) hst, by simp [hlt]⟩) (show 16 - (i + 1) < 16 - i from (by first | omega | (have hl_ : Hx.hexDigits.length = 16 := rfl; omega) | (simp only [List.length_append, List.length_replicate]; omega) | (simp only [List.length_append, List.length_replicate]; have hl_ := Hx.short hst; omega))) ⟨rfl, rfl, rfl, (congrArg (fun z => some (Value.int .i64 z)) (by first | rfl | omega : ((i : Int) + 1 : Int) = ((i + 1) : Int))), trivial⟩ [0] (by decide) (congrArg (fun (z : List UInt8) => ([var g1 (z.map valU8) 101] : List Sp)) (Hx.put_at (i := i) (t := t) (x := e4) (by omega)))
  ·
    refine J.co 3 rfl ?_
    refine O.p (Pu.wholeArr U101 Z5 rfl) rfl ?_
    refine O.q (Qt.bytesStr U41 U5 U9 rfl (Cel.var 0 rfl) (by first | omega | (have hl_ : Hx.hexDigits.length = 16 := rfl; omega) | (simp only [List.length_append, List.length_replicate]; omega) | (simp only [List.length_append, List.length_replicate]; have hl_ := Hx.short hst; omega))) rfl ?_
    refine O.oc 2 rfl ?_
    exact J.r0 rfl rfl ⟨(by have hi_ : i = 16 := (by omega); subst hi_; exact congrArg str (Hx.hex_end rfl hst)), rfl⟩

set_option maxRecDepth 100000 in
theorem r05_Hex (n : Nat) (hn : n < 18446744073709551616) : Tri Tryz.prog 43 #[.int .u64 (Nat.cast n : Int)] [] [] (fun v L' => v = str (Hx.hexL n 16) ∧ L' = []) := by
  refine Tri.en F43 rfl K43 rfl fun w0 => ?_
  refine J.cc 14 rfl ?_
  refine J.lo (X := Nat × Nat × List UInt8) (fun (i, m, t) => i ≤ 16 ∧ m < 18446744073709551616 ∧ Hx.hexL m (16 - i) ++ t = Hx.hexL n 16) (fun (i, m, t) => [(0, .int .u64 (Nat.cast m : Int)), (3, str t), (4, .int .i64 (i : Int))]) (fun (i, m, t) => []) (fun (i, m, t) => 16 - i) ⟨0, n, ([] : List UInt8)⟩ [2] [] [] ⟨by omega, hn, by simp⟩ ⟨rfl, rfl, (eqi (by omega)), trivial⟩ rfl rfl ?_
  rintro ⟨i, m, t⟩ ⟨hi, hm, hst⟩
  refine J.cc 6 rfl ?_
  refine J.cd rfl (fun p1 => ?_) (fun p1 => ?_)
  ·
    refine J.co 7 rfl ?_
    refine O.p (Pu.to (Pu.quo rfl rfl (by omega)) (congrArg (Value.int .u64) (Hx.quo_nat hm))) rfl ?_
    refine O.p (Pu.to (Pu.mul rfl rfl) (congrArg (Value.int .u64) (Hx.mb hm))) rfl ?_
    refine O.p (Pu.to (Pu.sub rfl rfl) (congrArg (Value.int .u64) (Hx.sb hm))) rfl ?_
    refine O.p (Pu.to (Pu.conv U22 U3 rfl) (congrArg (Value.int .i64) Hx.cb)) rfl ?_
    refine O.oo 6 rfl ?_
    refine O.p (Pu.add' rfl rfl (by omega)) rfl ?_
    refine O.p (Pu.sCut U9 rfl rfl rfl (by omega) (by omega) (by first | omega | (simp only [List.length_cons, List.length_nil]; omega))) rfl ?_
    refine O.oo 1 rfl ?_
    refine O.p (Pu.sAdd rfl rfl (by simp only [List.length_take, List.length_drop, List.length_cons, List.length_nil]; have hl_ := Hx.short hst; omega)) rfl ?_
    refine O.oo 4 rfl ?_
    refine O.p (Pu.to (Pu.quo rfl rfl (by omega)) (congrArg (Value.int .u64) (Hx.quo_nat hm))) rfl ?_
    refine O.oo 5 rfl ?_
    refine O.p (Pu.add' rfl rfl (by omega)) rfl ?_
    refine O.oc 2 rfl ?_
    exact J.lq ⟨i + 1, m / 16, ((([48, 49, 50, 51, 52, 53, 54, 55, 56, 57, 97, 98, 99, 100, 101, 102]).drop ((Nat.cast (m % 16) : Int)).toNat).take (((Nat.cast (m % 16) : Int) + 1).toNat - ((Nat.cast (m % 16) : Int)).toNat)) ++ t⟩ [2] [] [] ⟨by omega, by omega, Hx.text_step (by omega) hst⟩ (by dsimp only; omega) ⟨rfl, rfl, (eqi (by omega)), trivial⟩ rfl rfl
  ·
    refine J.cc 6 rfl ?_
    exact J.r0 rfl rfl ⟨(by have hi_ : i = 16 := (by omega); subst hi_; exact congrArg str (Hx.hex_end rfl hst)), rfl⟩

set_option maxRecDepth 100000 in
theorem dec_ParseHex (s : List UInt8) : Tri Tryz.prog 83 #[str s] [var 0 (Hx.hexDigits.map valU8) 101] [] (fun v L' => v = .tuple #[.int .u64 (Nat.cast (Hx.parse s).1 : Int), .int .i64 (Hx.parse s).2] ∧ L' = []) := by
  refine Tri.en F83 rfl K83 rfl fun w0 => ?_
  refine J.co 9 rfl ?_
  refine O.p (Pu.sLen U9 rfl) rfl ?_
  refine O.oc 2 rfl ?_
  refine J.cd rfl (fun p1 => ?_) (fun p1 => ?_)
  ·
    refine J.cc 5 rfl ?_
    exact J.rn [_, _] [] rfl ⟨rfl, rfl, trivial⟩ rfl ⟨(by first | (rw [Hx.parse_len (by omega)]; rfl) | (rw [Hx.parse_not (by omega) hacc (by assumption) (by assumption)]; rfl) | (have hk_ : k = 16 := (by omega); subst hk_; rw [Hx.parse_bad (by omega) hacc hc ((Hx.found_end hfd).trans (Hx.dI_neg.1 (by omega)))]; rfl)), rfl⟩
  ·
    refine J.cc 11 rfl ?_
    refine J.lo (X := Nat × Nat) (fun (i, m) => i ≤ 16 ∧ Hx.accH s i = some m) (fun (i, m) => [(4, .int .u64 (Nat.cast m : Int)), (11, .int .i64 (i : Int))]) (fun (i, m) => []) (fun (i, m) => 16 - i) ⟨0, 0⟩ [0] [] [] ⟨by omega, rfl⟩ ⟨(eqi (by omega)), (eqi (by omega)), trivial⟩ rfl rfl ?_
    rintro ⟨i, m⟩ ⟨hi, hacc⟩
    refine J.cc 5 rfl ?_
    refine J.cd rfl (fun p2 => ?_) (fun p2 => ?_)
    ·
      refine J.co 12 rfl ?_
      obtain ⟨b3, hb4⟩ := ex_at (l := s) (i := ((i : Int) : Int).toNat) (by omega)
      refine O.p (Pu.sIdx U9 rfl rfl (by omega) hb4) rfl ?_
      refine O.l (Lo.ca C112 (dec_value b3) [] rfl rfl (.ro 0 rfl .nil)) rfl ?_
      rintro _ _ ⟨_, ⟨rfl, rfl⟩, rfl⟩
      refine O.oc 12 rfl ?_
      refine J.cond rfl (fun h6 => ?_) (fun h6 => ?_)
      ·
        have h7 : ((Hx.hv b3).isSome) = false := not_flip h6
        refine J.cc 5 rfl ?_
        exact J.rn [_, _] [] rfl ⟨rfl, rfl, trivial⟩ rfl ⟨(by first | (rw [Hx.parse_len (by omega)]; rfl) | (rw [Hx.parse_not (by omega) hacc (by assumption) (by assumption)]; rfl) | (have hk_ : k = 16 := (by omega); subst hk_; rw [Hx.parse_bad (by omega) hacc hc ((Hx.found_end hfd).trans (Hx.dI_neg.1 (by omega)))]; rfl)), rfl⟩
      ·
        have h8 : ((Hx.hv b3).isSome) = true := not_flip h6
        refine J.co 3 rfl ?_
        refine O.p (Pu.to (Pu.mul rfl rfl) (congrArg (Value.int .u64) (Hx.mul_nat (Hx.acc_fit hacc (by omega))))) rfl ?_
        refine O.oo 1 rfl ?_
        refine O.p (Pu.to (Pu.add rfl rfl) (congrArg (Value.int .u64) (Hx.add_nat (Hx.acc_fit hacc (by omega)) (Hx.getD_lt _)))) rfl ?_
        refine O.oo 4 rfl ?_
        refine O.p (Pu.add' rfl rfl (by omega)) rfl ?_
        refine O.oc 2 rfl ?_
        exact J.lq ⟨i + 1, m * 16 + (Hx.hv b3).getD 0⟩ [0] [] [] ⟨by omega, Hx.acc_some hacc (by assumption) (by assumption)⟩ (by dsimp only; omega) ⟨rfl, (eqi (by omega)), trivial⟩ rfl rfl
    ·
      refine J.cc 7 rfl ?_
      exact J.rn [_, _] [] rfl ⟨rfl, rfl, trivial⟩ rfl ⟨(by have hi_ : i = 16 := (by omega); subst hi_; rw [Hx.parse_ok (by omega) hacc]; rfl), rfl⟩

end Go.Proofs.YtnhfgnnpbipcnaaGreatDoor
