/-
  Several texts in one: SI8, SI9, SI10, SI11.
-/
import Derived.KernelRfl
import Derived.Test.YtnhfgnnpbipcnaaGreatDoorSIB
import Derived.Test.YtnhfgnnpbipcnaaGreatDoorLkD
import Derived.Test.YtnhfgnnpbipcnaaGreatDoorSiteA
namespace Go.Proofs.YtnhfgnnpbipcnaaGreatDoor
open Go Go.LK
set_option linter.unusedSimpArgs false

set_option maxRecDepth 100000 in
set_option maxHeartbeats 1000000 in
theorem rd_begin (p : Nat) (line : Wd.Bs) (hs : line.length ≤ 20000) (hf : Si.fstOk line = true) : Tri Tryz.prog 47 #[.pointer (some ⟨p, 0, none⟩), str line] [libW, var 0 (Hx.hexDigits.map valU8) 101] [var p [.int .i64 0, .int .i64 0, .int .i64 0, .int .u64 0, Value.slice none 0 0, .func (.func 47) #[.pointer (some ⟨p, 0, none⟩)] #[]] 81] (fun v L' => v = .bool true ∧ L' = [var p [.int .i64 ((Si.fstV line).1), .int .i64 ((Si.fstV line).2.1), .int .i64 ((Si.fstV line).2.2.1), .int .u64 (Nat.cast (Si.fstV line).2.2.2 : Int), Value.slice none 0 0, .func (.func 84) #[.pointer (some ⟨p, 0, none⟩)] #[]] 81]) := by
  obtain ⟨h5, hq, w, hw, hkey, hp⟩ := Si.fst_parts hf
  refine Tri.en F47 rfl K47 rfl fun w0 => ?_
  refine J.co 7 rfl ?_
  refine O.l (Lo.ca C49 (w_Words line (by omega)) [] rfl rfl .nil) rfl ?_
  rintro v1 _ ⟨_, rfl, rfl⟩
  refine O.oo 5 rfl ?_
  refine O.q (Qt.lenM U72 rfl (Src.row 0 rfl)) rfl ?_
  refine O.p (Pu.to (Pu.sub' rfl rfl (by omega)) (congrArg (Value.int .i64) (show ((Wd.wordsL line).length : Int) - 1 = 4 from (by omega)))) rfl ?_
  refine O.oo 6 rfl ?_
  refine O.q (Qt.cutHead U72 Z9 rfl (Src.row 0 rfl) rfl (by omega) (by omega)) rfl ?_
  refine O.l (Lo.ca C35 (w_Join (vcut v1 1 0 (4 : Int).toNat) ((Wd.wordsL line).take (4 : Int).toNat) (by intro h_; have h2_ := congrArg List.length h_; rw [List.length_take] at h2_; simp only [List.length_nil] at h2_; omega) (by rw [List.length_take]; omega) (by intro x_ hx_; have h_ := Wd.words_part line x_ (List.mem_of_mem_take hx_); omega)) [] rfl rfl (.of 0 (rd_trans row_rd (head_rd (by omega))) rfl rfl .nil)) rfl ?_
  rintro _ _ ⟨_, ⟨rfl, rfl⟩, rfl⟩
  refine O.l (Lo.ca C37 si_names [] rfl rfl .nil) rfl ?_
  rintro v3 _ ⟨_, rfl, rfl⟩
  refine O.l (Lo.ca C81 (cf_Numbers (Lib.join ((Wd.wordsL line).take (4 : Int).toNat) [32]) ([115, 105, 116, 101]) v3 Si.names (by have h_ := Si.join4_len hs; omega) (by decide) (fun x h => Nat.le_trans (Si.names_le x h) (by decide))) [] rfl rfl (.ro 0 rfl (.of 0 row_rd rfl rfl .nil))) rfl ?_
  rintro _ _ ⟨_, ⟨V4, rfl, rfl⟩, rfl⟩
  refine O.oo 10 rfl ?_
  refine O.q (Qt.idxM U72 Z9 rfl (Src.row 2 rfl) rfl (by omega) (by omega)) rfl ?_
  refine O.q (Qt.le A9 (Src.row 2 rfl) hw 0 rfl (by omega) rfl) rfl ?_
  refine O.l (Lo.ca C82 (w_Cut w (by have h_ := Wd.words_part line _ (List.mem_of_getElem? (by assumption)); omega)) [] rfl rfl (.ro 0 rfl .nil)) rfl ?_
  rintro _ _ ⟨_, ⟨rfl, rfl⟩, rfl⟩
  refine O.oo 11 rfl ?_
  refine O.l (Lo.ca C83 (dec_ParseHex ((Wd.cutL w).2.1)) [] rfl rfl (.ro 1 rfl .nil)) rfl ?_
  rintro _ _ ⟨_, ⟨rfl, rfl⟩, rfl⟩
  refine O.oo 12 rfl ?_
  refine O.kf 44 rfl (not_of_true hq) ?_
  refine O.oo 1 rfl ?_
  refine O.gq (t := 44) rfl rfl rfl rfl (Pu.qt (Pu.sNeq rfl rfl)) rfl ?_
  refine O.oo 2 rfl ?_
  refine O.kf 48 rfl (not_of_true hkey) ?_
  refine O.oc 4 rfl ?_
  refine J.condF rfl (decide_eq_false (fun h_ => h_ hp)) ?_
  refine J.cc 2 rfl ?_
  refine J.drawTail 14 Tryz.mixed (by kernel_rfl) ?_
  refine S.r 2 rfl ?_
  obtain ⟨e8, he8⟩ := ex_at (l := ((Cf.numbers (Lib.join ((Wd.wordsL line).take (4 : Int).toNat) [32]) ([115, 105, 116, 101]) Si.names).1)) (i := 0) (by first | omega | (have h_ : (Cf.numbers (Lib.join ((Wd.wordsL line).take (4 : Int).toNat) [32]) [115, 105, 116, 101] Si.names).1.length = 3 := Si.nq_len (line := line) (by assumption); omega) | (rw [List.length_take]; omega))
  refine S.q (Qt.idxM U53 Z3 rfl (Src.row 0 rfl) rfl (by omega) (by first | omega | (have h_ : (Cf.numbers (Lib.join ((Wd.wordsL line).take (4 : Int).toNat) [32]) [115, 105, 116, 101] Si.names).1.length = 3 := Si.nq_len (line := line) (by assumption); omega) | (rw [List.length_take]; omega))) rfl ?_
  refine S.q (Qt.le A3 (Src.row 0 rfl) he8 0 rfl (by omega) rfl) rfl ?_
  refine S.r 1 rfl ?_
  obtain ⟨e9, he9⟩ := ex_at (l := ((Cf.numbers (Lib.join ((Wd.wordsL line).take (4 : Int).toNat) [32]) ([115, 105, 116, 101]) Si.names).1)) (i := 1) (by first | omega | (have h_ : (Cf.numbers (Lib.join ((Wd.wordsL line).take (4 : Int).toNat) [32]) [115, 105, 116, 101] Si.names).1.length = 3 := Si.nq_len (line := line) (by assumption); omega) | (rw [List.length_take]; omega))
  refine S.q (Qt.idxM U53 Z3 rfl (Src.row 0 rfl) rfl (by omega) (by first | omega | (have h_ : (Cf.numbers (Lib.join ((Wd.wordsL line).take (4 : Int).toNat) [32]) [115, 105, 116, 101] Si.names).1.length = 3 := Si.nq_len (line := line) (by assumption); omega) | (rw [List.length_take]; omega))) rfl ?_
  refine S.q (Qt.le A3 (Src.row 0 rfl) he9 0 rfl (by omega) rfl) rfl ?_
  refine S.r 1 rfl ?_
  obtain ⟨e10, he10⟩ := ex_at (l := ((Cf.numbers (Lib.join ((Wd.wordsL line).take (4 : Int).toNat) [32]) ([115, 105, 116, 101]) Si.names).1)) (i := 2) (by first | omega | (have h_ : (Cf.numbers (Lib.join ((Wd.wordsL line).take (4 : Int).toNat) [32]) [115, 105, 116, 101] Si.names).1.length = 3 := Si.nq_len (line := line) (by assumption); omega) | (rw [List.length_take]; omega))
  refine S.q (Qt.idxM U53 Z3 rfl (Src.row 0 rfl) rfl (by omega) (by first | omega | (have h_ : (Cf.numbers (Lib.join ((Wd.wordsL line).take (4 : Int).toNat) [32]) [115, 105, 116, 101] Si.names).1.length = 3 := Si.nq_len (line := line) (by assumption); omega) | (rw [List.length_take]; omega))) rfl ?_
  refine S.q (Qt.le A3 (Src.row 0 rfl) he10 0 rfl (by omega) rfl) rfl ?_
  refine S.r 1 rfl ?_
  refine S.p (Pu.build [(0, .int .i64 e8), (1, .int .i64 e9), (2, .int .i64 e10), (3, .int .u64 (Nat.cast (Hx.parse ((Wd.cutL w).2.1)).1 : Int))] [.int .i64 e8, .int .i64 e9, .int .i64 e10, .int .u64 (Nat.cast (Hx.parse ((Wd.cutL w).2.1)).1 : Int), Value.slice none 0 0] #[(0, 1), (1, 1), (2, 1), (3, 1), (4, 1)] U25 Y25 (places25 N25) rfl (by kernel_rfl)) rfl ?_
  refine S.r 2 rfl ?_
  refine S.endO ?_
  refine O.l0 (Lo.st 3 Z25 rfl rfl rfl rfl rfl rfl rfl) ?_
  rintro _ _ rfl
  refine O.oo 5 rfl ?_
  refine O.p (Pu.makeFuncB [.pointer (some ⟨p, 0, none⟩)] [] rfl rfl) rfl ?_
  refine O.oo 2 rfl ?_
  refine O.l0 (Lo.st 3 Z39 rfl rfl rfl rfl rfl rfl rfl) ?_
  rintro _ _ rfl
  refine O.oc 5 rfl ?_
  exact J.r1 [3] rfl rfl rfl ⟨rfl, (by rw [Si.fstV_yes hf hw he8 he9 he10])⟩

end Go.Proofs.YtnhfgnnpbipcnaaGreatDoor

namespace Go.Proofs.YtnhfgnnpbipcnaaGreatDoor
open Go Go.LK
set_option linter.unusedSimpArgs false

set_option maxRecDepth 100000 in
theorem s_Join0 (tv : Value) (sep : List UInt8) (l : List Wd.Bs) (h0 : l.length = 0) : Tri Tryz.prog 40 #[tv, str sep] [rd tv 1 (l.map encS)] [] (fun v L' => v = str ([] : List UInt8) ∧ L' = []) := by
  refine Tri.en F40 rfl K40 rfl fun w0 => ?_
  refine J.co 8 rfl ?_
  refine O.q (Qt.lenM U72 rfl (Src.ro 0 rfl)) rfl ?_
  refine O.oc 7 rfl ?_
  refine J.condT rfl (decide_eq_true (by omega)) ?_
  refine J.cc 4 rfl ?_
  exact J.r0 rfl rfl ⟨rfl, rfl⟩

set_option maxRecDepth 100000 in
theorem w_Join0 (lv : Value) (l : List Wd.Bs) (h0 : l.length = 0) : Tri Tryz.prog 35 #[lv] [rd lv 1 (l.map encS)] [] (fun v L' => v = str ([] : List UInt8) ∧ L' = []) := by
  refine Tri.en F35 rfl K35 rfl fun w0 => ?_
  refine J.co 7 rfl ?_
  refine O.l (Lo.ca C40 (s_Join0 lv ([32]) l h0) [] rfl rfl (.ro 0 rfl .nil)) rfl ?_
  rintro _ _ ⟨_, ⟨rfl, rfl⟩, rfl⟩
  refine O.oc 2 rfl ?_
  exact J.r0 rfl rfl ⟨rfl, rfl⟩

set_option maxRecDepth 100000 in
theorem w_JoinB (lv : Value) (l : List Wd.Bs) (hne : l ≠ []) (hn : l.length ≤ 100000) (hl : (Lib.join l [32]).length ≤ 100000000) : Tri Tryz.prog 35 #[lv] [rd lv 1 (l.map encS)] [] (fun v L' => v = str (Lib.join l [32]) ∧ L' = []) := by
  refine Tri.en F35 rfl K35 rfl fun w0 => ?_
  refine J.co 7 rfl ?_
  refine O.l (Lo.ca C40 (s_Join lv l hne hn hl) [] rfl rfl (.ro 0 rfl .nil)) rfl ?_
  rintro _ _ ⟨_, ⟨rfl, rfl⟩, rfl⟩
  refine O.oc 2 rfl ?_
  exact J.r0 rfl rfl ⟨rfl, rfl⟩

set_option maxRecDepth 100000 in
set_option maxHeartbeats 1000000 in
theorem rd_beginNo (p : Nat) (line : Wd.Bs) (hs : line.length ≤ 20000) (hf : Si.fstOk line = false) (h1 : 1 ≤ (Wd.wordsL line).length) : Tri Tryz.prog 47 #[.pointer (some ⟨p, 0, none⟩), str line] [libW, var 0 (Hx.hexDigits.map valU8) 101] [var p [.int .i64 0, .int .i64 0, .int .i64 0, .int .u64 0, Value.slice none 0 0, .func (.func 47) #[.pointer (some ⟨p, 0, none⟩)] #[]] 81] (fun v L' => v = .bool false ∧ L' = [var p [.int .i64 0, .int .i64 0, .int .i64 0, .int .u64 0, Value.slice none 0 0, .func (.func 47) #[.pointer (some ⟨p, 0, none⟩)] #[]] 81]) := by
  refine Tri.en F47 rfl K47 rfl fun w0 => ?_
  refine J.co 7 rfl ?_
  refine O.l (Lo.ca C49 (w_Words line (by omega)) [] rfl rfl .nil) rfl ?_
  rintro v1 _ ⟨_, rfl, rfl⟩
  refine O.oo 5 rfl ?_
  refine O.q (Qt.lenM U72 rfl (Src.row 0 rfl)) rfl ?_
  refine O.p (Pu.sub' rfl rfl (by first | omega | (have h_ := Wd.words_len line; omega))) rfl ?_
  refine O.oc 3 rfl ?_
  refine by_bool (decide ((Wd.wordsL line).length = 5)) (fun h2 => ?_) (fun h2 => ?_)
  ·
    have p3 := of_decide_eq_true h2
    refine J.co 3 rfl ?_
    refine O.q (Qt.cutHead U72 Z9 rfl (Src.row 0 rfl) rfl (by omega) (by omega)) rfl ?_
    refine O.l (Lo.ca C35 (w_JoinB (vcut v1 1 0 (((Wd.wordsL line).length : Int) - 1).toNat) ((Wd.wordsL line).take (((Wd.wordsL line).length : Int) - 1).toNat) (by intro h_; have h2_ := congrArg List.length h_; rw [List.length_take] at h2_; simp only [List.length_nil] at h2_; omega) (by rw [List.length_take]; have h_ := Wd.words_len line; omega) (by have h_ := Si.joinN_len (line := line) (k := ((((Wd.wordsL line).length : Int)) - 1).toNat); omega)) [] rfl rfl (.of 0 (rd_trans row_rd (head_rd (by omega))) rfl rfl .nil)) rfl ?_
    rintro _ _ ⟨_, ⟨rfl, rfl⟩, rfl⟩
    refine O.l (Lo.ca C37 si_names [] rfl rfl .nil) rfl ?_
    rintro v5 _ ⟨_, rfl, rfl⟩
    refine O.l (Lo.ca C81 (cf_Numbers (Lib.join ((Wd.wordsL line).take (((Wd.wordsL line).length : Int) - 1).toNat) [32]) ([115, 105, 116, 101]) v5 Si.names (by first | decide | (have h_ := Si.joinN_len (line := line) (k := ((((Wd.wordsL line).length : Int)) - 1).toNat); omega)) (by decide) (fun x h => Nat.le_trans (Si.names_le x h) (by decide))) [] rfl rfl (.ro 0 rfl (.of 0 row_rd rfl rfl .nil))) rfl ?_
    rintro _ _ ⟨_, ⟨V6, rfl, rfl⟩, rfl⟩
    refine O.oo 10 rfl ?_
    obtain ⟨e8, he8⟩ := ex_at (l := Wd.wordsL line) (i := ((Wd.wordsL line).length - 1)) (by omega)
    refine O.q (Qt.idxM U72 Z9 rfl (Src.row 2 rfl) rfl (by omega) (by omega)) rfl ?_
    refine O.q (Qt.le A9 (Src.row 2 rfl) he8 0 rfl (by omega) rfl) rfl ?_
    refine O.l (Lo.ca C82 (w_Cut e8 (by have h_ := Wd.words_part line _ (List.mem_of_getElem? (by assumption)); omega)) [] rfl rfl (.ro 0 rfl .nil)) rfl ?_
    rintro _ _ ⟨_, ⟨rfl, rfl⟩, rfl⟩
    refine O.oo 11 rfl ?_
    refine O.l (Lo.ca C83 (dec_ParseHex ((Wd.cutL e8).2.1)) [] rfl rfl (.ro 1 rfl .nil)) rfl ?_
    rintro _ _ ⟨_, ⟨rfl, rfl⟩, rfl⟩
    refine O.oo 12 rfl ?_
    refine O.sp 44 rfl (fun h11 => ?_) (fun h11 => ?_)
    ·
      have h12 : ((Cf.numbers (Lib.join ((Wd.wordsL line).take (((Wd.wordsL line).length : Int) - 1).toNat) [32]) ([115, 105, 116, 101]) Si.names).2) = false := not_flip h11
      refine O.oc 13 rfl ?_
      exact J.r1 [3] rfl rfl rfl ⟨rfl, rfl⟩
    ·
      have h13 : ((Cf.numbers (Lib.join ((Wd.wordsL line).take (((Wd.wordsL line).length : Int) - 1).toNat) [32]) ([115, 105, 116, 101]) Si.names).2) = true := not_flip h11
      refine O.oo 1 rfl ?_
      refine O.gq (t := 44) rfl rfl rfl rfl (Pu.qt (Pu.sNeq rfl rfl)) rfl ?_
      refine O.oo 2 rfl ?_
      refine O.sp 48 rfl (fun h14 => ?_) (fun h14 => ?_)
      ·
        have h15 : (((Wd.cutL e8).1) == ([107, 101, 121])) = false := not_flip h14
        refine O.oc 9 rfl ?_
        exact J.r1 [3] rfl rfl rfl ⟨rfl, rfl⟩
      ·
        have h16 : (((Wd.cutL e8).1) == ([107, 101, 121])) = true := not_flip h14
        refine O.oc 4 rfl ?_
        refine J.cd rfl (fun p17 => ?_) (fun p17 => ?_)
        ·
          refine J.cc 4 rfl ?_
          exact J.r1 [3] rfl rfl rfl ⟨rfl, rfl⟩
        ·
          exact Si.fst_ab hf (of_decide_eq_true h2) h13 he8 h16 (Decidable.not_not.1 (of_decide_eq_false (decide_eq_false p17)))
  ·
    have p18 := of_decide_eq_false h2
    refine by_bool (decide ((Wd.wordsL line).length = 1)) (fun h19 => ?_) (fun h19 => ?_)
    ·
      have p20 := of_decide_eq_true h19
      refine J.co 3 rfl ?_
      refine O.q (Qt.cutHead U72 Z9 rfl (Src.row 0 rfl) rfl (by omega) (by omega)) rfl ?_
      refine O.l (Lo.ca C35 (w_Join0 (vcut v1 1 0 (((Wd.wordsL line).length : Int) - 1).toNat) ((Wd.wordsL line).take (((Wd.wordsL line).length : Int) - 1).toNat) (by rw [List.length_take]; omega)) [] rfl rfl (.of 0 (rd_trans row_rd (head_rd (by omega))) rfl rfl .nil)) rfl ?_
      rintro _ _ ⟨_, ⟨rfl, rfl⟩, rfl⟩
      refine O.l (Lo.ca C37 si_names [] rfl rfl .nil) rfl ?_
      rintro v22 _ ⟨_, rfl, rfl⟩
      refine O.l (Lo.ca C81 (cf_Numbers ([] : List UInt8) ([115, 105, 116, 101]) v22 Si.names (by first | decide | (have h_ := Si.joinN_len (line := line) (k := ((((Wd.wordsL line).length : Int)) - 1).toNat); omega)) (by decide) (fun x h => Nat.le_trans (Si.names_le x h) (by decide))) [] rfl rfl (.ro 0 rfl (.of 0 row_rd rfl rfl .nil))) rfl ?_
      rintro _ _ ⟨_, ⟨V23, rfl, rfl⟩, rfl⟩
      refine O.oo 10 rfl ?_
      obtain ⟨e25, he25⟩ := ex_at (l := Wd.wordsL line) (i := ((Wd.wordsL line).length - 1)) (by omega)
      refine O.q (Qt.idxM U72 Z9 rfl (Src.row 2 rfl) rfl (by omega) (by omega)) rfl ?_
      refine O.q (Qt.le A9 (Src.row 2 rfl) he25 0 rfl (by omega) rfl) rfl ?_
      refine O.l (Lo.ca C82 (w_Cut e25 (by have h_ := Wd.words_part line _ (List.mem_of_getElem? (by assumption)); omega)) [] rfl rfl (.ro 0 rfl .nil)) rfl ?_
      rintro _ _ ⟨_, ⟨rfl, rfl⟩, rfl⟩
      refine O.oo 11 rfl ?_
      refine O.l (Lo.ca C83 (dec_ParseHex ((Wd.cutL e25).2.1)) [] rfl rfl (.ro 1 rfl .nil)) rfl ?_
      rintro _ _ ⟨_, ⟨rfl, rfl⟩, rfl⟩
      refine O.oo 12 rfl ?_
      refine O.kt 44 rfl (not_of_false (show (Cf.numbers ([] : Wd.Bs) [115, 105, 116, 101] Si.names).2 = false from Si.nq_nil)) ?_
      refine O.oc 13 rfl ?_
      exact J.r1 [3] rfl rfl rfl ⟨rfl, rfl⟩
    ·
      have p28 := of_decide_eq_false h19
      refine J.co 3 rfl ?_
      refine O.q (Qt.cutHead U72 Z9 rfl (Src.row 0 rfl) rfl (by omega) (by omega)) rfl ?_
      refine O.l (Lo.ca C35 (w_JoinB (vcut v1 1 0 (((Wd.wordsL line).length : Int) - 1).toNat) ((Wd.wordsL line).take (((Wd.wordsL line).length : Int) - 1).toNat) (by intro h_; have h2_ := congrArg List.length h_; rw [List.length_take] at h2_; simp only [List.length_nil] at h2_; omega) (by rw [List.length_take]; have h_ := Wd.words_len line; omega) (by have h_ := Si.joinN_len (line := line) (k := ((((Wd.wordsL line).length : Int)) - 1).toNat); omega)) [] rfl rfl (.of 0 (rd_trans row_rd (head_rd (by omega))) rfl rfl .nil)) rfl ?_
      rintro _ _ ⟨_, ⟨rfl, rfl⟩, rfl⟩
      refine O.l (Lo.ca C37 si_names [] rfl rfl .nil) rfl ?_
      rintro v30 _ ⟨_, rfl, rfl⟩
      refine O.l (Lo.ca C81 (cf_Numbers (Lib.join ((Wd.wordsL line).take (((Wd.wordsL line).length : Int) - 1).toNat) [32]) ([115, 105, 116, 101]) v30 Si.names (by first | decide | (have h_ := Si.joinN_len (line := line) (k := ((((Wd.wordsL line).length : Int)) - 1).toNat); omega)) (by decide) (fun x h => Nat.le_trans (Si.names_le x h) (by decide))) [] rfl rfl (.ro 0 rfl (.of 0 row_rd rfl rfl .nil))) rfl ?_
      rintro _ _ ⟨_, ⟨V31, rfl, rfl⟩, rfl⟩
      refine O.oo 10 rfl ?_
      obtain ⟨e33, he33⟩ := ex_at (l := Wd.wordsL line) (i := ((Wd.wordsL line).length - 1)) (by omega)
      refine O.q (Qt.idxM U72 Z9 rfl (Src.row 2 rfl) rfl (by omega) (by omega)) rfl ?_
      refine O.q (Qt.le A9 (Src.row 2 rfl) he33 0 rfl (by omega) rfl) rfl ?_
      refine O.l (Lo.ca C82 (w_Cut e33 (by have h_ := Wd.words_part line _ (List.mem_of_getElem? (by assumption)); omega)) [] rfl rfl (.ro 0 rfl .nil)) rfl ?_
      rintro _ _ ⟨_, ⟨rfl, rfl⟩, rfl⟩
      refine O.oo 11 rfl ?_
      refine O.l (Lo.ca C83 (dec_ParseHex ((Wd.cutL e33).2.1)) [] rfl rfl (.ro 1 rfl .nil)) rfl ?_
      rintro _ _ ⟨_, ⟨rfl, rfl⟩, rfl⟩
      refine O.oo 12 rfl ?_
      refine O.kt 44 rfl (not_of_false (show (Cf.numbers (Lib.join ((Wd.wordsL line).take (((Wd.wordsL line).length : Int) - 1).toNat) [32]) [115, 105, 116, 101] Si.names).2 = false from Si.nq_few (of_decide_eq_false h2))) ?_
      refine O.oc 13 rfl ?_
      exact J.r1 [3] rfl rfl rfl ⟨rfl, rfl⟩

end Go.Proofs.YtnhfgnnpbipcnaaGreatDoor

namespace Go.Proofs.YtnhfgnnpbipcnaaGreatDoor
open Go Go.LK
set_option linter.unusedSimpArgs false

set_option maxRecDepth 100000 in
set_option maxHeartbeats 1000000 in
theorem rd_service (p : Nat) (b c r key : Int) (sv f : Value) (l : List Sg) (line : Wd.Bs) (hs : line.length ≤ 20000) (hh : (Cf.numbers line Cf.svcW Cf.heads).2 = true) (hl : l.length ≤ 100000) : Tri Tryz.prog 84 #[.pointer (some ⟨p, 0, none⟩), str line] [libW, var 1 (Kn.names.map vS) 144] [var p [.int .i64 b, .int .i64 c, .int .i64 r, .int .u64 key, sv, f] 81, row sv 47 14 (l.map Sg.cells), bun (l.map (Sg.row 50))] (fun v L' => ∃ (V : Value) (gb : Nat) (e : Sg), e.nums = Cf.headL line ∧ e.cl = [] ∧ v = .bool true ∧ L' = [var p [.int .i64 b, .int .i64 c, .int .i64 r, .int .u64 key, V, .func (.func 114) #[] #[.pointer (some ⟨gb, 0, none⟩)]] 81, var gb [.pointer (some ⟨p, 0, none⟩)] 79, row V 47 14 ((l ++ [e]).map Sg.cells), bun ((l ++ [e]).map (Sg.row 50))]) := by
 refine Tri.en F84 rfl K84 rfl fun w0 => ?_
 refine J.co 2 rfl ?_
 refine O.l (Lo.bx rfl rfl) rfl ?_
 rintro _ _ ⟨g1, rfl, rfl⟩
 refine O.oo 5 rfl ?_
 refine O.l (Lo.ca C113 (cf_Head line (by omega)) [] rfl rfl (.ro 0 rfl (.ro 1 rfl .nil))) rfl ?_
 rintro _ _ ⟨_, ⟨z2, z3, z4, z5, z6, z7, z8, z9, z10, z11, z12, z13, z14, hz15, rfl, rfl⟩, rfl⟩
 refine O.oo 3 rfl ?_
 refine O.l (Lo.al Y47 rfl) rfl ?_
 rintro _ _ ⟨g17, rfl, rfl⟩
 refine O.l0 (Lo.st 0 Z47 rfl rfl rfl rfl rfl rfl rfl) ?_
 rintro _ _ rfl
 refine O.oc 7 rfl ?_
 refine J.condT rfl hh ?_
 refine J.seq ?_
 refine J.nr 50 4 (([] : List Cl).map Cl.cells) rfl ?_
 refine J.dm [(0, false), (1, false), (2, false), (3, false), (4, false), (5, false), (6, false), (7, true), (8, true), (9, false), (10, false), (11, false), (12, true)] [1, 2, 3] Tryz.mixed (by kernel_rfl) rfl ?_
 refine Mx.q rfl (Qt.lv 1 A79 rfl rfl rfl) rfl ?_
 refine Mx.q rfl (Qt.lv 1 A79 rfl rfl rfl) rfl ?_
 refine Mx.r 3 rfl ?_
 refine Mx.q rfl (Qt.lv 2 A23 rfl rfl rfl) rfl ?_
 refine Mx.q rfl (Qt.lva 0 A47 Z47 rfl rfl rfl) rfl ?_
 refine Mx.l rfl (Lo.bm Sg.cells [(⟨z2, z3, z4, z5, z6, z7, z8, z9, z10, z11, z12, z13, z14, Value.slice none 0 0, ([] : List Cl), rfl⟩ : Sg)] U23 Z47 Y47 rfl rfl rfl (by kernel_rfl) rfl rfl) rfl ?_
 rintro V18 _ rfl
 refine MxK.gp [2, 3, 4] [0, 1, 2] rfl rfl ?_
 refine Mx.l rfl (Lo.am 5 N23 info47 rfl rfl rfl rfl rfl (Src.row 0 rfl) Sg.one (by first | omega | (simp only [List.length_append, List.length_cons, List.length_nil]; omega)) (by first | omega | (simp only [List.length_append, List.length_cons, List.length_nil]; omega))) rfl ?_
 rintro V19 _ rfl
 refine MxK.gp [2, 3, 4] [0, 1, 2] rfl rfl ?_
 refine Mx.r 3 rfl ?_
 refine Mx.one rfl (fun _ h => by cases h <;> rfl) (Src.row 5 rfl) (fun hV20 => ?_)
 refine Mx.l0 rfl (Lo.so 4 Z23 hV20 rfl rfl rfl rfl) ?_
 rintro _ _ rfl
 refine MxK.al [2, 3, 4] rfl (by kernel_rfl) ?_
 refine Mx.nil ?_
 refine J.re (L' := [bun ((l ++ ([(⟨z2, z3, z4, z5, z6, z7, z8, z9, z10, z11, z12, z13, z14, Value.slice none 0 0, ([] : List Cl), rfl⟩ : Sg)])).map (Sg.row 50)), row V18 47 14 (([(⟨z2, z3, z4, z5, z6, z7, z8, z9, z10, z11, z12, z13, z14, Value.slice none 0 0, ([] : List Cl), rfl⟩ : Sg)]).map Sg.cells), var g17 [.int .i64 z2, .int .i64 z3, .int .i64 z4, .int .i64 z5, .int .i64 z6, .int .i64 z7, .int .i64 z8, .int .i64 z9, .int .i64 z10, .int .i64 z11, .int .i64 z12, .int .i64 z13, .int .i64 z14, Value.slice none 0 0] 47, var g1 [.pointer (some ⟨p, 0, none⟩)] 79, var p [.int .i64 b, .int .i64 c, .int .i64 r, .int .u64 key, V19, f] 81, row V19 47 14 ((l ++ ([(⟨z2, z3, z4, z5, z6, z7, z8, z9, z10, z11, z12, z13, z14, Value.slice none 0 0, ([] : List Cl), rfl⟩ : Sg)])).map Sg.cells)]) (Re.trans (Re.sn [1, 6, 0, 2, 3, 4, 5] rfl) (Si.sg_into rfl rfl)) ?_
 refine J.region ?_
 refine O.q (Qt.lv 3 A79 rfl rfl rfl) rfl ?_
 refine O.p (Pu.makeFunc [.pointer (some ⟨g1, 0, none⟩)] rfl) rfl ?_
 refine O.oo 2 rfl ?_
 refine O.l0 (Lo.st 4 Z39 rfl rfl rfl rfl rfl rfl rfl) ?_
 rintro _ _ rfl
 refine O.oc 6 rfl ?_
 exact J.r1 [4, 3, 5, 0] rfl rfl rfl ⟨V19, g1, (⟨z2, z3, z4, z5, z6, z7, z8, z9, z10, z11, z12, z13, z14, Value.slice none 0 0, ([] : List Cl), rfl⟩ : Sg), (hz15).symm, rfl, (by simp only [vOf]; rw [hh]), rfl⟩

set_option maxRecDepth 100000 in
set_option maxHeartbeats 1000000 in
theorem rd_serviceNo (p : Nat) (line : Wd.Bs) (hs : line.length ≤ 20000) (hh : (Cf.numbers line Cf.svcW Cf.heads).2 = false) : Tri Tryz.prog 84 #[.pointer (some ⟨p, 0, none⟩), str line] [libW, var 1 (Kn.names.map vS) 144] [] (fun v L' => v = .bool false ∧ L' = []) := by
  refine Tri.en F84 rfl K84 rfl fun w0 => ?_
  refine J.co 2 rfl ?_
  refine O.l (Lo.bx rfl rfl) rfl ?_
  rintro _ _ ⟨g1, rfl, rfl⟩
  refine O.oo 5 rfl ?_
  refine O.l (Lo.ca C113 (cf_Head line (by omega)) [] rfl rfl (.ro 0 rfl (.ro 1 rfl .nil))) rfl ?_
  rintro _ _ ⟨_, ⟨z2, z3, z4, z5, z6, z7, z8, z9, z10, z11, z12, z13, z14, hz15, rfl, rfl⟩, rfl⟩
  refine O.oo 3 rfl ?_
  refine O.l (Lo.al Y47 rfl) rfl ?_
  rintro _ _ ⟨g17, rfl, rfl⟩
  refine O.l0 (Lo.st 0 Z47 rfl rfl rfl rfl rfl rfl rfl) ?_
  rintro _ _ rfl
  refine O.oc 7 rfl ?_
  refine J.condF rfl hh ?_
  refine J.cc 6 rfl ?_
  exact J.r0 rfl rfl ⟨(by simp only [vOf]; rw [hh]), rfl⟩

end Go.Proofs.YtnhfgnnpbipcnaaGreatDoor

namespace Go.Proofs.YtnhfgnnpbipcnaaGreatDoor
open Go Go.LK
set_option linter.unusedSimpArgs false

set_option maxRecDepth 100000 in
set_option maxHeartbeats 1000000 in
theorem rd_callYes (p : Nat) (b c r key : Int) (sv f : Value) (l : List Sg) (e : Sg) (line : Wd.Bs) (hs : line.length ≤ 20000) (hh : (Cf.numbers line Cf.callW Cf.tails).2 = true) (hcl : e.cl.length ≤ 100000) (hl : l.length ≤ 100000) : Tri Tryz.prog 115 #[.pointer (some ⟨p, 0, none⟩), str line] [libW] [var p [.int .i64 b, .int .i64 c, .int .i64 r, .int .u64 key, sv, f] 81, row sv 47 14 ((l ++ [e]).map Sg.cells), bun ((l ++ [e]).map (Sg.row 50))] (fun v L' => ∃ e' : Sg, e'.nums = e.nums ∧ e'.cl = e.cl ++ [Si.callC line] ∧ v = .bool true ∧ L' = [var p [.int .i64 b, .int .i64 c, .int .i64 r, .int .u64 key, sv, f] 81, row sv 47 14 ((l ++ [e']).map Sg.cells), bun ((l ++ [e']).map (Sg.row 50))]) := by
  refine Tri.en F115 rfl K115 rfl fun w0 => ?_
  refine J.co 7 rfl ?_
  refine O.l (Lo.ca C125 (cf_Call line (by omega)) [] rfl rfl (.ro 0 rfl .nil)) rfl ?_
  rintro _ _ ⟨_, ⟨z1, z2, z3, z4, hz5, rfl, rfl⟩, rfl⟩
  refine O.oo 3 rfl ?_
  refine O.l (Lo.al Y50 rfl) rfl ?_
  rintro _ _ ⟨g7, rfl, rfl⟩
  refine O.l0 (Lo.st 0 Z50 rfl rfl rfl rfl rfl rfl rfl) ?_
  rintro _ _ rfl
  refine O.oc 7 rfl ?_
  refine J.condT rfl hh ?_
  refine J.seq ?_
  have he_ := Si.last_at2 (l := l) (e := e)
  have hla_ := Si.len_app (l := l) (e := e)
  refine J.drawStill Tryz.mixed (by kernel_rfl) ?_
  refine S.r 4 rfl ?_
  refine S.q (Qt.lv 1 A23 rfl rfl rfl) rfl ?_
  refine S.r 4 rfl ?_
  refine S.q (Qt.lv 1 A23 rfl rfl rfl) rfl ?_
  refine S.q (Qt.lenM U23 rfl (Src.row 2 rfl)) rfl ?_
  refine S.p (Pu.sub' rfl rfl (by omega)) rfl ?_
  refine S.q (Qt.idxM U23 Z47 rfl (Src.row 2 rfl) rfl (by omega) (by omega)) rfl ?_
  refine S.r 1 rfl ?_
  refine S.endJ ?_
  refine J.re (Re.trans (Re.sn [3, 0, 1, 2] rfl) Si.sg_out) ?_
  refine J.dm [(0, false), (1, false), (2, false), (3, false), (4, false), (5, false), (6, true), (7, true), (8, false), (9, false), (10, true)] [2, 4] Tryz.mixed (by kernel_rfl) rfl ?_
  refine Mx.r 4 rfl ?_
  refine Mx.q rfl (Qt.le A45 (Src.row 1 rfl) he_ 13 rfl (by omega) rfl) rfl ?_
  refine Mx.q rfl (Qt.lva 0 A50 Z50 rfl rfl rfl) rfl ?_
  refine Mx.l rfl (Lo.bm Cl.cells [(⟨z1, z2, z3, z4⟩ : Cl)] U45 Z50 Y50 rfl rfl rfl (by kernel_rfl) rfl rfl) rfl ?_
  rintro V8 _ rfl
  refine MxK.gp [3, 5] [0, 1] rfl rfl ?_
  refine Mx.l rfl (Lo.am 1 N45 info50 rfl rfl rfl rfl rfl (Src.row 0 rfl) Cl.one (by first | omega | (simp only [List.length_append, List.length_cons, List.length_nil]; omega)) (by first | omega | (simp only [List.length_append, List.length_cons, List.length_nil]; omega))) rfl ?_
  rintro V9 _ rfl
  refine MxK.gp [3, 5] [0, 1] rfl rfl ?_
  refine Mx.r 2 rfl ?_
  refine Mx.one rfl (fun _ h => by cases h <;> rfl) (Src.row 1 rfl) (fun hV10 => ?_)
  refine Mx.l0 rfl (Lo.storeM 5 (j := ((l ++ [e]).length - 1)) (off := 13) (vs := [V9]) (e := [.int .i64 e.x0, .int .i64 e.x1, .int .i64 e.x2, .int .i64 e.x3, .int .i64 e.x4, .int .i64 e.x5, .int .i64 e.x6, .int .i64 e.x7, .int .i64 e.x8, .int .i64 e.x9, .int .i64 e.x10, .int .i64 e.x11, .int .i64 e.x12, e.cv]) (⟨e.x0, e.x1, e.x2, e.x3, e.x4, e.x5, e.x6, e.x7, e.x8, e.x9, e.x10, e.x11, e.x12, V9, e.cl ++ ([(⟨z1, z2, z3, z4⟩ : Cl)]), hV10⟩ : Sg) rfl rfl rfl rfl (by omega) he_ rfl Z45 (one_cells hV10) rfl (one_all hV10) rfl rfl) ?_
  rintro _ _ rfl
  have hs11 : ((l ++ [e]).set ((l ++ [e]).length - 1) (⟨e.x0, e.x1, e.x2, e.x3, e.x4, e.x5, e.x6, e.x7, e.x8, e.x9, e.x10, e.x11, e.x12, V9, e.cl ++ ([(⟨z1, z2, z3, z4⟩ : Cl)]), hV10⟩ : Sg))[((l ++ [e]).length - 1)]? = some (⟨e.x0, e.x1, e.x2, e.x3, e.x4, e.x5, e.x6, e.x7, e.x8, e.x9, e.x10, e.x11, e.x12, V9, e.cl ++ ([(⟨z1, z2, z3, z4⟩ : Cl)]), hV10⟩ : Sg) := List.getElem?_set_self (List.getElem?_eq_some_iff.1 he_).1
  refine MxK.al [3, 5] rfl (by kernel_rfl) ?_
  refine Mx.nil ?_
  refine J.seq ?_
  refine J.re (L' := [bun ((l ++ [(⟨e.x0, e.x1, e.x2, e.x3, e.x4, e.x5, e.x6, e.x7, e.x8, e.x9, e.x10, e.x11, e.x12, V9, e.cl ++ ([(⟨z1, z2, z3, z4⟩ : Cl)]), hV10⟩ : Sg)]).map (Sg.row 50)), row sv 47 14 ((l ++ [(⟨e.x0, e.x1, e.x2, e.x3, e.x4, e.x5, e.x6, e.x7, e.x8, e.x9, e.x10, e.x11, e.x12, V9, e.cl ++ ([(⟨z1, z2, z3, z4⟩ : Cl)]), hV10⟩ : Sg)]).map Sg.cells), row V8 50 4 (([(⟨z1, z2, z3, z4⟩ : Cl)]).map Cl.cells), var g7 [.int .i64 z1, .int .i64 z2, .int .i64 z3, .int .i64 z4] 50, var p [.int .i64 b, .int .i64 c, .int .i64 r, .int .u64 key, sv, f] 81]) (Re.trans (Re.trans (Re.sn [1, 2, 5, 0, 3, 4] rfl) (Re.eq (L' := [row V9 50 4 ((e.cl ++ ([(⟨z1, z2, z3, z4⟩ : Cl)])).map Cl.cells), bun (l.map (Sg.row 50)), row sv 47 14 ((l ++ [(⟨e.x0, e.x1, e.x2, e.x3, e.x4, e.x5, e.x6, e.x7, e.x8, e.x9, e.x10, e.x11, e.x12, V9, e.cl ++ ([(⟨z1, z2, z3, z4⟩ : Cl)]), hV10⟩ : Sg)]).map Sg.cells), row V8 50 4 (([(⟨z1, z2, z3, z4⟩ : Cl)]).map Cl.cells), var g7 [.int .i64 z1, .int .i64 z2, .int .i64 z3, .int .i64 z4] 50, var p [.int .i64 b, .int .i64 c, .int .i64 r, .int .u64 key, sv, f] 81]) (by rw [Si.set_last] <;> rfl))) (Si.sg_into rfl rfl)) ?_
  refine J.cc 4 rfl ?_
  exact J.r1 [4, 1, 0] rfl rfl rfl ⟨(⟨e.x0, e.x1, e.x2, e.x3, e.x4, e.x5, e.x6, e.x7, e.x8, e.x9, e.x10, e.x11, e.x12, V9, e.cl ++ ([(⟨z1, z2, z3, z4⟩ : Cl)]), hV10⟩ : Sg), rfl, (by simp only [Si.callC, Si.clOf_eq hz5]), (by simp only [vOf]; rw [hh]), rfl⟩

set_option maxRecDepth 100000 in
set_option maxHeartbeats 1000000 in
theorem rd_callNo (p : Nat) (line : Wd.Bs) (hs : line.length ≤ 20000) (hh : (Cf.numbers line Cf.callW Cf.tails).2 = false) : Tri Tryz.prog 115 #[.pointer (some ⟨p, 0, none⟩), str line] [libW] [] (fun v L' => v = .bool false ∧ L' = []) := by
  refine Tri.en F115 rfl K115 rfl fun w0 => ?_
  refine J.co 7 rfl ?_
  refine O.l (Lo.ca C125 (cf_Call line (by omega)) [] rfl rfl (.ro 0 rfl .nil)) rfl ?_
  rintro _ _ ⟨_, ⟨z1, z2, z3, z4, hz5, rfl, rfl⟩, rfl⟩
  refine O.oo 3 rfl ?_
  refine O.l (Lo.al Y50 rfl) rfl ?_
  rintro _ _ ⟨g7, rfl, rfl⟩
  refine O.l0 (Lo.st 0 Z50 rfl rfl rfl rfl rfl rfl rfl) ?_
  rintro _ _ rfl
  refine O.oc 7 rfl ?_
  refine J.condF rfl hh ?_
  refine J.cc 6 rfl ?_
  exact J.r0 rfl rfl ⟨(by simp only [vOf]; rw [hh]), rfl⟩

set_option maxRecDepth 100000 in
theorem rd_nextCall (p g : Nat) (b c r key : Int) (sv f : Value) (l : List Sg) (e : Sg) (line : Wd.Bs) (hs : line.length ≤ 20000) (hh : (Cf.numbers line Cf.callW Cf.tails).2 = true) (hcl : e.cl.length ≤ 100000) (hl : l.length ≤ 100000) : Tri Tryz.prog 114 #[str line, .pointer (some ⟨g, 0, none⟩)] [libW, var 1 (Kn.names.map vS) 144, var g [.pointer (some ⟨p, 0, none⟩)] 79] [var p [.int .i64 b, .int .i64 c, .int .i64 r, .int .u64 key, sv, f] 81, row sv 47 14 ((l ++ [e]).map Sg.cells), bun ((l ++ [e]).map (Sg.row 50))] (fun v L' => ∃ e' : Sg, e'.nums = e.nums ∧ e'.cl = e.cl ++ [Si.callC line] ∧ v = .bool true ∧ L' = [var p [.int .i64 b, .int .i64 c, .int .i64 r, .int .u64 key, sv, f] 81, row sv 47 14 ((l ++ [e']).map Sg.cells), bun ((l ++ [e']).map (Sg.row 50))]) := by
  refine Tri.en F114 rfl K114 rfl fun w0 => ?_
  refine J.co 6 rfl ?_
  refine O.q (Qt.lw 2 A79 rfl rfl rfl) rfl ?_
  refine O.oo 1 rfl ?_
  refine O.l (Lo.ca C115 (rd_callYes p b c r key sv f l e line hs hh hcl hl) [0, 1, 2] rfl rfl (.ro 0 rfl .nil)) rfl ?_
  rintro _ _ ⟨_, ⟨e1, hn1, hc1, rfl, rfl⟩, rfl⟩
  refine O.oc 7 rfl ?_
  exact J.r1 [0, 1, 2] rfl rfl rfl ⟨e1, hn1, hc1, rfl, rfl⟩

set_option maxRecDepth 100000 in
theorem rd_nextHead (p g : Nat) (b c r key : Int) (sv f : Value) (l : List Sg) (line : Wd.Bs) (hs : line.length ≤ 20000) (hn : (Cf.numbers line Cf.callW Cf.tails).2 = false) (hh : (Cf.numbers line Cf.svcW Cf.heads).2 = true) (hl : l.length ≤ 100000) : Tri Tryz.prog 114 #[str line, .pointer (some ⟨g, 0, none⟩)] [libW, var 1 (Kn.names.map vS) 144, var g [.pointer (some ⟨p, 0, none⟩)] 79] [var p [.int .i64 b, .int .i64 c, .int .i64 r, .int .u64 key, sv, f] 81, row sv 47 14 (l.map Sg.cells), bun (l.map (Sg.row 50))] (fun v L' => ∃ (V : Value) (gb : Nat) (e : Sg), e.nums = Cf.headL line ∧ e.cl = [] ∧ v = .bool true ∧ L' = [var p [.int .i64 b, .int .i64 c, .int .i64 r, .int .u64 key, V, .func (.func 114) #[] #[.pointer (some ⟨gb, 0, none⟩)]] 81, var gb [.pointer (some ⟨p, 0, none⟩)] 79, row V 47 14 ((l ++ [e]).map Sg.cells), bun ((l ++ [e]).map (Sg.row 50))]) := by
  refine Tri.en F114 rfl K114 rfl fun w0 => ?_
  refine J.co 6 rfl ?_
  refine O.q (Qt.lw 2 A79 rfl rfl rfl) rfl ?_
  refine O.oo 1 rfl ?_
  refine O.l (Lo.ca C115 (rd_callNo p line hs hn) [] rfl rfl (.ro 0 rfl .nil)) rfl ?_
  rintro _ _ ⟨_, ⟨rfl, rfl⟩, rfl⟩
  refine O.oo 1 rfl ?_
  refine O.gq (t := 7) rfl rfl rfl rfl (Qt.lw 2 A79 rfl rfl rfl) rfl ?_
  refine O.oo 1 rfl ?_
  refine O.gl (t := 7) rfl rfl rfl rfl (Lo.ca C84 (rd_service p b c r key sv f l line hs hh hl) [0, 1, 2] rfl rfl (.ro 0 rfl (.ro 1 rfl .nil))) rfl ?_
  rintro _ _ ⟨_, ⟨V2, gb2, e2, hn2, hc2, rfl, rfl⟩, rfl⟩
  refine O.oc 3 rfl ?_
  exact J.r1 [0, 1, 2, 3] rfl rfl rfl ⟨V2, gb2, e2, hn2, hc2, rfl, rfl⟩

set_option maxRecDepth 100000 in
theorem rd_nextNone (p g : Nat) (line : Wd.Bs) (hs : line.length ≤ 20000) (hn : (Cf.numbers line Cf.callW Cf.tails).2 = false) (hh : (Cf.numbers line Cf.svcW Cf.heads).2 = false) : Tri Tryz.prog 114 #[str line, .pointer (some ⟨g, 0, none⟩)] [libW, var 1 (Kn.names.map vS) 144, var g [.pointer (some ⟨p, 0, none⟩)] 79] [] (fun v L' => v = .bool false ∧ L' = []) := by
  refine Tri.en F114 rfl K114 rfl fun w0 => ?_
  refine J.co 6 rfl ?_
  refine O.q (Qt.lw 2 A79 rfl rfl rfl) rfl ?_
  refine O.oo 1 rfl ?_
  refine O.l (Lo.ca C115 (rd_callNo p line hs hn) [] rfl rfl (.ro 0 rfl .nil)) rfl ?_
  rintro _ _ ⟨_, ⟨rfl, rfl⟩, rfl⟩
  refine O.oo 1 rfl ?_
  refine O.gq (t := 7) rfl rfl rfl rfl (Qt.lw 2 A79 rfl rfl rfl) rfl ?_
  refine O.oo 1 rfl ?_
  refine O.gl (t := 7) rfl rfl rfl rfl (Lo.ca C84 (rd_serviceNo p line hs hh) [] rfl rfl (.ro 0 rfl (.ro 1 rfl .nil))) rfl ?_
  rintro _ _ ⟨_, ⟨rfl, rfl⟩, rfl⟩
  refine O.oc 3 rfl ?_
  exact J.r0 rfl rfl ⟨rfl, rfl⟩

end Go.Proofs.YtnhfgnnpbipcnaaGreatDoor
