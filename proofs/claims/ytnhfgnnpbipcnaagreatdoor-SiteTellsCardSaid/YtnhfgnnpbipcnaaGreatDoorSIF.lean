/-
  Several texts in one: SI12, SI13.
-/
import Derived.KernelRfl
import Derived.Test.YtnhfgnnpbipcnaaGreatDoorSIC
namespace Go.Proofs.YtnhfgnnpbipcnaaGreatDoor
open Go Go.LK
set_option linter.unusedSimpArgs false

set_option maxRecDepth 100000 in
set_option maxHeartbeats 4000000 in
theorem si_Parse (text : Wd.Bs) : Tri Tryz.prog 19 #[str text] [libW, var 0 (Hx.hexDigits.map valU8) 101, var 1 (Kn.names.map vS) 144] [] (fun v L' => ∃ (b c r : Int) (key : Nat) (sv : Value) (l : List Sg) (n e : Int), v = .tuple #[.agg #[.int .i64 b, .int .i64 c, .int .i64 r, .int .u64 (Nat.cast key : Int), sv], .int .i64 n, .int .i64 e] ∧ Si.parse text = (((b, c, r, key), Si.dat l), n, e) ∧ Si.bnd l 20001 ∧ L' = [row sv 47 14 (l.map Sg.cells), bun (l.map (Sg.row 50))]) := by
  refine Tri.en F19 rfl K19 rfl fun w0 => ?_
  refine J.co 2 rfl ?_
  refine O.l (Lo.al Y25 rfl) rfl ?_
  rintro _ _ ⟨g1, rfl, rfl⟩
  refine O.oo 7 rfl ?_
  refine O.p (Pu.sLen U9 rfl) rfl ?_
  refine O.oc 2 rfl ?_
  refine J.cd rfl (fun p2 => ?_) (fun p2 => ?_)
  ·
    refine J.co 2 rfl ?_
    refine O.p (Pu.build [] [.int .i64 0, .int .i64 0, .int .i64 0, .int .u64 0, Value.slice none 0 0] #[(0, 1), (1, 1), (2, 1), (3, 1), (4, 1)] U25 Y25 (places25 N25) rfl (by kernel_rfl)) rfl ?_
    refine O.l0 (Lo.st 0 Z25 rfl rfl rfl rfl rfl rfl rfl) ?_
    rintro _ _ rfl
    refine O.oc 3 rfl ?_
    refine J.nr 47 14 (([] : List Sg).map Sg.cells) rfl ?_
    refine J.re Re.new ?_
    exact J.rn [_, _, _] [1, 0] rfl ⟨⟨_, _, 0, 0, _, rfl, (Cel.var 2 rfl), rfl, (Cut.agg [.int .i64 0, .int .i64 0, .int .i64 0, .int .u64 0, Value.slice none 0 0] A25 Z25 rfl rfl)⟩, rfl, rfl, trivial⟩ rfl ⟨0, 0, 0, 0, Value.slice none 0 0, [], 0, 9, rfl, Si.parse_big (by omega), Si.bnd_nil, rfl⟩
  ·
    refine J.co 3 rfl ?_
    refine O.p (Pu.build [] [.int .i64 0, .int .i64 0, .int .i64 0, .int .u64 0, Value.slice none 0 0, Value.nilFunc] #[(0, 5), (5, 1)] U81 Y81 (places81 N81) rfl (by kernel_rfl)) rfl ?_
    refine O.l (Lo.bx rfl rfl) rfl ?_
    rintro _ _ ⟨g3, rfl, rfl⟩
    refine O.oo 6 rfl ?_
    refine O.p (Pu.makeFuncB [.pointer (some ⟨g3, 0, none⟩)] [] rfl rfl) rfl ?_
    refine O.oo 2 rfl ?_
    refine O.l0 (Lo.st 0 Z39 rfl rfl rfl rfl rfl rfl rfl) ?_
    rintro _ _ rfl
    refine O.oo 4 rfl ?_
    refine O.l (Lo.ca C48 (w_Lines text (by omega)) [] rfl rfl .nil) rfl ?_
    rintro v4 _ ⟨_, rfl, rfl⟩
    refine O.oc 5 rfl ?_
    refine J.nr 47 14 (([] : List Sg).map Sg.cells) rfl ?_
    refine J.re Re.new ?_
    refine J.re Re.new ?_
    have hle_ := Wd.lines_len text
    refine J.co 2 rfl ?_
    refine O.q (Qt.lenM U72 rfl (Src.row 3 rfl)) rfl ?_
    refine O.oc 3 rfl ?_
    refine J.lo (X := Nat × Bool × Int × Int × Int × Nat × Value × Value × List Sg × Sp) (fun (k, sm, b, c, r, key, sv, f, l, X) => k ≤ (Wd.linesL text).length ∧ Si.parse text = Si.go ((Wd.linesL text).drop k) (k : Int) (Si.stOf sm b c r key l) ∧ Si.bnd l k ∧ Si.stt (.func (.func 47) #[.pointer (some ⟨g3, 0, none⟩)] #[]) (.func (.func 84) #[.pointer (some ⟨g3, 0, none⟩)] #[]) (fun g_ => .func (.func 114) #[] #[.pointer (some ⟨g_, 0, none⟩)]) (fun g_ => var g_ [.pointer (some ⟨g3, 0, none⟩)] 79) sm b c r key sv f l X) (fun (k, sm, b, c, r, key, sv, f, l, X) => [(7, .bool sm), (25, .int .i64 (k : Int))]) (fun (k, sm, b, c, r, key, sv, f, l, X) => [var g3 [.int .i64 b, .int .i64 c, .int .i64 r, .int .u64 (Nat.cast key : Int), sv, f] 81, row sv 47 14 (l.map Sg.cells), bun (l.map (Sg.row 50)), X]) (fun (k, sm, b, c, r, key, sv, f, l, X) => (Wd.linesL text).length - k) ⟨0, false, 0, 0, 0, 0, Value.slice none 0 0, .func (.func 47) #[.pointer (some ⟨g3, 0, none⟩)] #[], ([] : List Sg), (bun ([] : List Sp))⟩ [2, 5, 6, 23, 24] [4, 2, 1, 0] [5, 3] ⟨by omega, Si.go_start (by omega), Si.bnd_nil, .inl ⟨rfl, rfl, rfl, rfl, rfl, rfl, rfl, rfl, rfl⟩⟩ ⟨rfl, (eqi (by omega)), trivial⟩ rfl rfl ?_
    rintro ⟨k, sm, b, c, r, key, sv, f, l, X⟩ ⟨hk, hG, hb, hst⟩
    refine J.cc 5 rfl ?_
    refine J.cd rfl (fun p5 => ?_) (fun p5 => ?_)
    ·
      refine J.co 6 rfl ?_
      obtain ⟨e6, he6⟩ := ex_at (l := Wd.linesL text) (i := k) (by omega)
      refine O.q (Qt.idxM U72 Z9 rfl (Src.row 5 rfl) rfl (by omega) (by omega)) rfl ?_
      refine O.q (Qt.le A9 (Src.row 5 rfl) he6 0 rfl (by omega) rfl) rfl ?_
      refine O.oc 5 rfl ?_
      have hln : e6.length ≤ 20000 := by have h_ := Wd.lines_part text _ (List.mem_of_getElem? he6); omega
      refine J.co 2 rfl ?_
      refine O.l (Lo.ca C49 (w_Words e6 (by omega)) [] rfl rfl .nil) rfl ?_
      rintro v7 _ ⟨_, rfl, rfl⟩
      refine O.q (Qt.lenM U72 rfl (Src.row 0 rfl)) rfl ?_
      refine O.oc 2 rfl ?_
      refine J.cd rfl (fun p8 => ?_) (fun p8 => ?_)
      ·
        refine J.co 2 rfl ?_
        refine O.p (Pu.add' rfl rfl (by omega)) rfl ?_
        refine O.oc 2 rfl ?_
        exact J.lq ⟨k + 1, sm, b, c, r, key, sv, f, l, X⟩ [2, 5, 6, 23, 24] [1, 2, 3, 4] [5, 6] ⟨by omega, Si.rd_blank hG he6 (by omega), Si.bnd_up hb, hst⟩ (by dsimp only; omega) ⟨rfl, (eqi (by omega)), trivial⟩ rfl rfl
      ·
        refine J.cc 3 rfl ?_
        obtain ⟨rfl, rfl, rfl, rfl, rfl, rfl, rfl, rfl, rfl⟩ | ⟨rfl, rfl, rfl, rfl, rfl⟩ | ⟨rfl, ⟨l0, e0, rfl⟩, gb, rfl, rfl⟩ := hst
        ·
          refine by_bool (Si.fstOk e6) (fun hf => ?_) (fun hf => ?_)
          ·
            refine J.co 4 rfl ?_
            refine O.q (Qt.lv 1 A39 rfl rfl rfl) rfl ?_
            refine O.oo 1 rfl ?_
            refine O.l (Lo.cb C47 rfl rfl (rd_begin g3 e6 hln hf) [1] rfl (.ro 0 rfl (.ro 1 rfl .nil))) rfl ?_
            rintro _ _ ⟨_, ⟨rfl, rfl⟩, rfl⟩
            refine O.oo 9 rfl ?_
            refine O.p (Pu.add' rfl rfl (by omega)) rfl ?_
            refine O.oc 2 rfl ?_
            exact J.lq ⟨k + 1, true, (Si.fstV e6).1, (Si.fstV e6).2.1, (Si.fstV e6).2.2.1, (Si.fstV e6).2.2.2, Value.slice none 0 0, .func (.func 84) #[.pointer (some ⟨g3, 0, none⟩)] #[], ([] : List Sg), (bun ([] : List Sp))⟩ [2, 5, 6, 23, 24] [0, 2, 3, 4] [5, 6] ⟨by omega, Si.rd_first hG he6 (by omega) hf, Si.bnd_nil, .inr (.inl ⟨rfl, rfl, rfl, rfl, rfl⟩)⟩ (by dsimp only; omega) ⟨rfl, (eqi (by omega)), trivial⟩ rfl rfl
          ·
            refine J.co 4 rfl ?_
            refine O.q (Qt.lv 1 A39 rfl rfl rfl) rfl ?_
            refine O.oo 1 rfl ?_
            refine O.l (Lo.cb C47 rfl rfl (rd_beginNo g3 e6 hln hf (by omega)) [1] rfl (.ro 0 rfl (.ro 1 rfl .nil))) rfl ?_
            rintro _ _ ⟨_, ⟨rfl, rfl⟩, rfl⟩
            refine O.oo 5 rfl ?_
            refine O.p (Pu.build [] [.int .i64 0, .int .i64 0, .int .i64 0, .int .u64 0, Value.slice none 0 0] #[(0, 1), (1, 1), (2, 1), (3, 1), (4, 1)] U25 Y25 (places25 N25) rfl (by kernel_rfl)) rfl ?_
            refine O.oo 1 rfl ?_
            refine O.l0 (Lo.st 5 Z25 rfl rfl rfl rfl rfl rfl rfl) ?_
            rintro _ _ rfl
            refine O.oc 3 rfl ?_
            exact J.rn [_, _, _] [2, 3] rfl ⟨⟨_, _, 0, 0, _, rfl, (Cel.var 5 rfl), rfl, (Cut.agg [.int .i64 0, .int .i64 0, .int .i64 0, .int .u64 0, Value.slice none 0 0] A25 Z25 rfl rfl)⟩, rfl, rfl, trivial⟩ rfl ⟨0, 0, 0, 0, Value.slice none 0 0, [], (k : Int), 2, rfl, Si.rd_nofirst hG he6 (by omega) hf, Si.bnd_nil, rfl⟩
        ·
          refine by_bool (Cf.numbers e6 Cf.svcW Cf.heads).2 (fun hh => ?_) (fun hh => ?_)
          ·
            refine J.co 4 rfl ?_
            refine O.q (Qt.lv 1 A39 rfl rfl rfl) rfl ?_
            refine O.oo 1 rfl ?_
            refine O.l (Lo.cb C84 rfl rfl (rd_service g3 b c r (Nat.cast key : Int) (Value.slice none 0 0) (.func (.func 84) #[.pointer (some ⟨g3, 0, none⟩)] #[]) ([] : List Sg) e6 hln hh (by simp)) [1, 2, 3] rfl (.ro 0 rfl (.ro 2 rfl .nil))) rfl ?_
            rintro _ _ ⟨_, ⟨V11, gb11, e11, hn11, hc11, rfl, rfl⟩, rfl⟩
            refine O.oo 9 rfl ?_
            refine O.p (Pu.add' rfl rfl (by omega)) rfl ?_
            refine O.oc 2 rfl ?_
            exact J.lq ⟨k + 1, true, b, c, r, key, V11, .func (.func 114) #[] #[.pointer (some ⟨gb11, 0, none⟩)], ([] : List Sg) ++ [e11], (var gb11 [.pointer (some ⟨g3, 0, none⟩)] 79)⟩ [2, 5, 6, 23, 24] [0, 2, 3, 1] [6, 7] ⟨by omega, Si.rd_head hG he6 (by omega) hh hn11 hc11, Si.bnd_head hb hc11, .inr (.inr ⟨rfl, ⟨_, _, rfl⟩, _, rfl, rfl⟩)⟩ (by dsimp only; omega) ⟨rfl, (eqi (by omega)), trivial⟩ rfl rfl
          ·
            refine J.co 4 rfl ?_
            refine O.q (Qt.lv 1 A39 rfl rfl rfl) rfl ?_
            refine O.oo 1 rfl ?_
            refine O.l (Lo.cb C84 rfl rfl (rd_serviceNo g3 e6 hln hh) [] rfl (.ro 0 rfl (.ro 2 rfl .nil))) rfl ?_
            rintro _ _ ⟨_, ⟨rfl, rfl⟩, rfl⟩
            refine O.oo 5 rfl ?_
            refine O.p (Pu.build [] [.int .i64 0, .int .i64 0, .int .i64 0, .int .u64 0, Value.slice none 0 0] #[(0, 1), (1, 1), (2, 1), (3, 1), (4, 1)] U25 Y25 (places25 N25) rfl (by kernel_rfl)) rfl ?_
            refine O.oo 1 rfl ?_
            refine O.l0 (Lo.st 5 Z25 rfl rfl rfl rfl rfl rfl rfl) ?_
            rintro _ _ rfl
            refine O.oc 3 rfl ?_
            exact J.rn [_, _, _] [2, 3] rfl ⟨⟨_, _, 0, 0, _, rfl, (Cel.var 5 rfl), rfl, (Cut.agg [.int .i64 0, .int .i64 0, .int .i64 0, .int .u64 0, Value.slice none 0 0] A25 Z25 rfl rfl)⟩, rfl, rfl, trivial⟩ rfl ⟨0, 0, 0, 0, Value.slice none 0 0, [], (k : Int), 2, rfl, Si.rd_none hG he6 (by omega) hh (.inr rfl), Si.bnd_nil, rfl⟩
        ·
          have hl0 := hb.1
          have hl1 : (l0 ++ [e0]).length ≤ 100000 := by omega
          rw [Si.len_app] at hl0
          have hc0 := hb.2 e0 (by simp)
          refine by_bool (Cf.numbers e6 Cf.callW Cf.tails).2 (fun hn => ?_) (fun hn => ?_)
          ·
            refine J.co 4 rfl ?_
            refine O.q (Qt.lv 1 A39 rfl rfl rfl) rfl ?_
            refine O.oo 1 rfl ?_
            refine O.l (Lo.cv C114 rfl rfl (rd_nextCall g3 gb b c r (Nat.cast key : Int) sv (.func (.func 114) #[] #[.pointer (some ⟨gb, 0, none⟩)]) l0 e0 e6 hln hn (by omega) (by omega)) [1, 2, 3] rfl (.ro 0 rfl (.ro 2 rfl (.own 4 rfl rfl .nil)))) rfl ?_
            rintro _ _ ⟨_, ⟨e14, hn14, hc14, rfl, rfl⟩, rfl⟩
            refine O.oo 9 rfl ?_
            refine O.p (Pu.add' rfl rfl (by omega)) rfl ?_
            refine O.oc 2 rfl ?_
            exact J.lq ⟨k + 1, true, b, c, r, key, sv, .func (.func 114) #[] #[.pointer (some ⟨gb, 0, none⟩)], l0 ++ [e14], (var gb [.pointer (some ⟨g3, 0, none⟩)] 79)⟩ [2, 5, 6, 23, 24] [0, 1, 2, 4] [5, 6] ⟨by omega, Si.rd_call hG he6 (by omega) hn hn14 hc14, Si.bnd_call hb hc14, .inr (.inr ⟨rfl, ⟨_, _, rfl⟩, gb, rfl, rfl⟩)⟩ (by dsimp only; omega) ⟨rfl, (eqi (by omega)), trivial⟩ rfl rfl
          ·
            refine by_bool (Cf.numbers e6 Cf.svcW Cf.heads).2 (fun hh => ?_) (fun hh => ?_)
            ·
              refine J.co 4 rfl ?_
              refine O.q (Qt.lv 1 A39 rfl rfl rfl) rfl ?_
              refine O.oo 1 rfl ?_
              refine O.l (Lo.cv C114 rfl rfl (rd_nextHead g3 gb b c r (Nat.cast key : Int) sv (.func (.func 114) #[] #[.pointer (some ⟨gb, 0, none⟩)]) (l0 ++ [e0]) e6 hln hn hh hl1) [1, 2, 3] rfl (.ro 0 rfl (.ro 2 rfl (.own 4 rfl rfl .nil)))) rfl ?_
              rintro _ _ ⟨_, ⟨V16, gb16, e16, hn16, hc16, rfl, rfl⟩, rfl⟩
              refine O.oo 9 rfl ?_
              refine O.p (Pu.add' rfl rfl (by omega)) rfl ?_
              refine O.oc 2 rfl ?_
              exact J.lq ⟨k + 1, true, b, c, r, key, V16, .func (.func 114) #[] #[.pointer (some ⟨gb16, 0, none⟩)], (l0 ++ [e0]) ++ [e16], (var gb16 [.pointer (some ⟨g3, 0, none⟩)] 79)⟩ [2, 5, 6, 23, 24] [0, 2, 3, 1] [6, 7] ⟨by omega, Si.rd_head hG he6 (by omega) hh hn16 hc16, Si.bnd_head hb hc16, .inr (.inr ⟨rfl, ⟨_, _, rfl⟩, _, rfl, rfl⟩)⟩ (by dsimp only; omega) ⟨rfl, (eqi (by omega)), trivial⟩ rfl rfl
            ·
              refine J.co 4 rfl ?_
              refine O.q (Qt.lv 1 A39 rfl rfl rfl) rfl ?_
              refine O.oo 1 rfl ?_
              refine O.l (Lo.cv C114 rfl rfl (rd_nextNone g3 gb e6 hln hn hh) [] rfl (.ro 0 rfl (.ro 2 rfl (.own 4 rfl rfl .nil)))) rfl ?_
              rintro _ _ ⟨_, ⟨rfl, rfl⟩, rfl⟩
              refine O.oo 5 rfl ?_
              refine O.p (Pu.build [] [.int .i64 0, .int .i64 0, .int .i64 0, .int .u64 0, Value.slice none 0 0] #[(0, 1), (1, 1), (2, 1), (3, 1), (4, 1)] U25 Y25 (places25 N25) rfl (by kernel_rfl)) rfl ?_
              refine O.oo 1 rfl ?_
              refine O.l0 (Lo.st 5 Z25 rfl rfl rfl rfl rfl rfl rfl) ?_
              rintro _ _ rfl
              refine O.oc 3 rfl ?_
              refine J.nr 47 14 (([] : List Sg).map Sg.cells) rfl ?_
              refine J.re Re.new ?_
              exact J.rn [_, _, _] [1, 0] rfl ⟨⟨_, _, 0, 0, _, rfl, (Cel.var 7 rfl), rfl, (Cut.agg [.int .i64 0, .int .i64 0, .int .i64 0, .int .u64 0, Value.slice none 0 0] A25 Z25 rfl rfl)⟩, rfl, rfl, trivial⟩ rfl ⟨0, 0, 0, 0, Value.slice none 0 0, [], (k : Int), 2, rfl, Si.rd_none hG he6 (by omega) hh (.inl hn), Si.bnd_nil, rfl⟩
    ·
      refine J.cc 7 rfl ?_
      refine J.cond rfl (fun h19 => ?_) (fun h19 => ?_)
      ·
        have h20 : sm = false := not_flip h19
        subst h20
        refine J.co 2 rfl ?_
        refine O.p (Pu.build [] [.int .i64 0, .int .i64 0, .int .i64 0, .int .u64 0, Value.slice none 0 0] #[(0, 1), (1, 1), (2, 1), (3, 1), (4, 1)] U25 Y25 (places25 N25) rfl (by kernel_rfl)) rfl ?_
        refine O.oo 1 rfl ?_
        refine O.q (Qt.lenM U72 rfl (Src.row 5 rfl)) rfl ?_
        refine O.l0 (Lo.st 4 Z25 rfl rfl rfl rfl rfl rfl rfl) ?_
        rintro _ _ rfl
        refine O.oc 3 rfl ?_
        refine J.nr 47 14 (([] : List Sg).map Sg.cells) rfl ?_
        refine J.re Re.new ?_
        exact J.rn [_, _, _] [1, 0] rfl ⟨⟨_, _, 0, 0, _, rfl, (Cel.var 6 rfl), rfl, (Cut.agg [.int .i64 0, .int .i64 0, .int .i64 0, .int .u64 0, Value.slice none 0 0] A25 Z25 rfl rfl)⟩, rfl, rfl, trivial⟩ rfl ⟨0, 0, 0, 0, Value.slice none 0 0, [], ((Wd.linesL text).length : Int), 2, rfl, Si.rd_end0 hG (by omega) hk, Si.bnd_nil, rfl⟩
      ·
        have h21 : sm = true := not_flip h19
        subst h21
        refine J.co 6 rfl ?_
        refine O.q (Qt.lva 0 A25 Z25 rfl rfl rfl) rfl ?_
        refine O.one (Src.row 1 rfl) (fun hV22 => ?_)
        refine O.l0 (Lo.st 4 Z25 rfl rfl rfl rfl rfl (by simp only [List.all_cons, List.all_nil, Bool.and_true, hV22] <;> rfl) rfl) ?_
        rintro _ _ rfl
        refine O.oc 3 rfl ?_
        exact J.rn [_, _, _] [1, 2] rfl ⟨⟨_, _, 0, 0, _, rfl, (Cel.var 4 rfl), rfl, (Cut.agg [.int .i64 b, .int .i64 c, .int .i64 r, .int .u64 (Nat.cast key : Int), sv] A25 Z25 rfl rfl)⟩, rfl, rfl, trivial⟩ rfl ⟨b, c, r, key, sv, l, 0, 0, rfl, Si.rd_end1 hG (by omega), Si.bnd_le hb (by omega), rfl⟩

end Go.Proofs.YtnhfgnnpbipcnaaGreatDoor

namespace Go.Proofs.YtnhfgnnpbipcnaaGreatDoor
open Go Go.LK
set_option linter.unusedSimpArgs false

end Go.Proofs.YtnhfgnnpbipcnaaGreatDoor
