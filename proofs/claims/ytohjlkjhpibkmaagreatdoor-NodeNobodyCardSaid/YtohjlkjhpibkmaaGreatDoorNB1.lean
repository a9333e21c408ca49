/-
  Runs that are known throughout, printed by a program of mine.
-/
import Derived.KernelRfl
import Derived.Test.YtohjlkjhpibkmaaGreatDoorFo
import Derived.Test.YtohjlkjhpibkmaaGreatDoorLkG
import Derived.Test.YtohjlkjhpibkmaaGreatDoorNumsT
namespace Go.Proofs.YtohjlkjhpibkmaaGreatDoor
open Go Go.LK
set_option linter.unusedSimpArgs false
set_option linter.unusedVariables false

set_option maxRecDepth 100000 in
theorem nb1 : Tri Tryz.prog 39 #[Value.pointer none] [] [] (fun v L' => v = .bool false ∧ L' = []) := by
 refine Tri.en F39 rfl K39 rfl fun w0 => ?_
 refine J.co 7 rfl ?_
 refine O.p (Pu.ptrNeNil N29 rfl) rfl ?_
 refine O.oc 9 rfl ?_
 exact J.r0 rfl rfl ⟨rfl, rfl⟩

set_option maxRecDepth 100000 in
theorem nb2 (g101 : Nat) (g102 : Nat) : Tri Tryz.prog 76 #[Value.pointer none, .func (.func 77) #[] #[.pointer (some ⟨g101, 0, none⟩), .pointer (some ⟨g102, 0, none⟩)]] [] [] (fun v L' => v = .tuple #[.agg #[Value.slice none 0 0, Value.slice none 0 0], .int .i64 7] ∧ L' = []) := by
 refine Tri.en F76 rfl K76 rfl fun w0 => ?_
 refine J.co 2 rfl ?_
 refine O.l (Lo.al Y36 rfl) rfl ?_
 rintro _ _ ⟨g104, rfl, rfl⟩
 refine O.oo 6 rfl ?_
 refine O.l (Lo.ca C39 nb1 [] rfl rfl .nil) rfl ?_
 rintro _ _ ⟨_, ⟨rfl, rfl⟩, rfl⟩
 refine O.oo 5 rfl ?_
 refine O.p (Pu.build [] [Value.slice none 0 0, Value.slice none 0 0] #[(0, 1), (1, 1)] U36 Y36 (places36 N36) rfl (by kernel_rfl)) rfl ?_
 refine O.l0 (Lo.st 0 Z36 rfl rfl rfl rfl rfl rfl rfl) ?_
 rintro _ _ rfl
 refine O.oc 2 rfl ?_
 exact J.rn [_, _] [] rfl ⟨⟨_, _, 0, 0, _, rfl, Cel.var 0 rfl, rfl, Cut.agg _ A36 Z36 rfl rfl⟩, rfl, trivial⟩ rfl ⟨rfl, rfl⟩

set_option maxRecDepth 100000 in
theorem nn_Request (x1 : Int) (x2 : Int) (x3 : Int) (x4 : Int) (x5 : Int) (x6 : Int) : Tri Tryz.prog 32 #[Value.pointer none, .agg #[.int .i64 x1, .int .i64 x2, .int .i64 x3, .int .i64 x4, .int .i64 x5, .int .i64 x6]] [] [] (fun v L' => v = .tuple #[.agg #[Value.slice none 0 0, Value.slice none 0 0], .int .i64 7] ∧ L' = []) := by
 refine Tri.en F32 rfl K32 rfl fun w0 => ?_
 refine J.co 2 rfl ?_
 refine O.l (Lo.bx rfl rfl) rfl ?_
 rintro _ _ ⟨g101, rfl, rfl⟩
 refine O.l (Lo.bx rfl rfl) rfl ?_
 rintro _ _ ⟨g102, rfl, rfl⟩
 refine O.l (Lo.al Y36 rfl) rfl ?_
 rintro _ _ ⟨g103, rfl, rfl⟩
 refine O.oo 4 rfl ?_
 refine O.q (Qt.lv 2 A29 rfl rfl rfl) rfl ?_
 refine O.p (Pu.makeFunc [.pointer (some ⟨g101, 0, none⟩), .pointer (some ⟨g102, 0, none⟩)] rfl) rfl ?_
 refine O.l (Lo.ca C76 (nb2 g101 g102) [] rfl rfl .nil) rfl ?_
 rintro _ _ ⟨_, ⟨rfl, rfl⟩, rfl⟩
 refine O.oo 2 rfl ?_
 refine O.l0 (Lo.st 0 Z36 rfl rfl rfl rfl rfl rfl rfl) ?_
 rintro _ _ rfl
 refine O.oc 2 rfl ?_
 exact J.rn [_, _] [] rfl ⟨⟨_, _, 0, 0, _, rfl, Cel.var 0 rfl, rfl, Cut.agg _ A36 Z36 rfl rfl⟩, rfl, trivial⟩ rfl ⟨rfl, rfl⟩

set_option maxRecDepth 100000 in
theorem nb4 (g1 : Nat) : Tri Tryz.prog 39 #[.pointer (some ⟨g1, 0, none⟩)] [] [var g1 (Value.pointer none :: .int .i64 0 :: .int .i64 0 :: .int .i64 0 :: .int .u64 0 :: Value.slice none 0 0 :: (rp 14 (.int .i64 0) [Value.slice none 0 0, .int .i64 0, .int .i64 0, .int .i64 0, .int .i64 0, Value.pointer none, Value.pointer none, Value.pointer none, Value.map none, Value.pointer none, Value.pointer none])) 90] (fun v L' => v = .bool false ∧ L' = [var g1 (Value.pointer none :: .int .i64 0 :: .int .i64 0 :: .int .i64 0 :: .int .u64 0 :: Value.slice none 0 0 :: (rp 14 (.int .i64 0) [Value.slice none 0 0, .int .i64 0, .int .i64 0, .int .i64 0, .int .i64 0, Value.pointer none, Value.pointer none, Value.pointer none, Value.map none, Value.pointer none, Value.pointer none])) 90]) := by
 refine Tri.en F39 rfl K39 rfl fun w0 => ?_
 refine J.co 7 rfl ?_
 refine O.p (Pu.ptrNe N29 rfl) rfl ?_
 refine O.oo 4 rfl ?_
 refine O.gz (Qt.lv 0 A82 rfl rfl rfl) rfl rfl ?_
 refine O.gz (Pu.qt (Pu.ptrNeNil N82 rfl)) rfl rfl ?_
 refine O.oc 3 rfl ?_
 exact J.r1 [0] rfl rfl rfl ⟨rfl, rfl⟩

set_option maxRecDepth 100000 in
theorem nb5 (g1 : Nat) (g105 : Nat) (g106 : Nat) : Tri Tryz.prog 76 #[.pointer (some ⟨g1, 0, none⟩), .func (.func 77) #[] #[.pointer (some ⟨g105, 0, none⟩), .pointer (some ⟨g106, 0, none⟩)]] [] [var g1 (Value.pointer none :: .int .i64 0 :: .int .i64 0 :: .int .i64 0 :: .int .u64 0 :: Value.slice none 0 0 :: (rp 14 (.int .i64 0) [Value.slice none 0 0, .int .i64 0, .int .i64 0, .int .i64 0, .int .i64 0, Value.pointer none, Value.pointer none, Value.pointer none, Value.map none, Value.pointer none, Value.pointer none])) 90] (fun v L' => v = .tuple #[.agg #[Value.slice none 0 0, Value.slice none 0 0], .int .i64 7] ∧ L' = [var g1 (Value.pointer none :: .int .i64 0 :: .int .i64 0 :: .int .i64 0 :: .int .u64 0 :: Value.slice none 0 0 :: (rp 14 (.int .i64 0) [Value.slice none 0 0, .int .i64 0, .int .i64 0, .int .i64 0, .int .i64 0, Value.pointer none, Value.pointer none, Value.pointer none, Value.map none, Value.pointer none, Value.pointer none])) 90]) := by
 refine Tri.en F76 rfl K76 rfl fun w0 => ?_
 refine J.co 2 rfl ?_
 refine O.l (Lo.al Y36 rfl) rfl ?_
 rintro _ _ ⟨g108, rfl, rfl⟩
 refine O.oo 6 rfl ?_
 refine O.l (Lo.ca C39 (nb4 g1) [1] rfl rfl .nil) rfl ?_
 rintro _ _ ⟨_, ⟨rfl, rfl⟩, rfl⟩
 refine O.oo 5 rfl ?_
 refine O.p (Pu.build [] [Value.slice none 0 0, Value.slice none 0 0] #[(0, 1), (1, 1)] U36 Y36 (places36 N36) rfl (by kernel_rfl)) rfl ?_
 refine O.l0 (Lo.st 1 Z36 rfl rfl rfl rfl rfl rfl rfl) ?_
 rintro _ _ rfl
 refine O.oc 2 rfl ?_
 exact J.rn [_, _] [0] rfl ⟨⟨_, _, 0, 0, _, rfl, Cel.var 1 rfl, rfl, Cut.agg _ A36 Z36 rfl rfl⟩, rfl, trivial⟩ rfl ⟨rfl, rfl⟩

set_option maxRecDepth 100000 in
theorem no_Request (g1 : Nat) (x1 : Int) (x2 : Int) (x3 : Int) (x4 : Int) (x5 : Int) (x6 : Int) : Tri Tryz.prog 32 #[.pointer (some ⟨g1, 0, none⟩), .agg #[.int .i64 x1, .int .i64 x2, .int .i64 x3, .int .i64 x4, .int .i64 x5, .int .i64 x6]] [] [var g1 (Value.pointer none :: .int .i64 0 :: .int .i64 0 :: .int .i64 0 :: .int .u64 0 :: Value.slice none 0 0 :: (rp 14 (.int .i64 0) [Value.slice none 0 0, .int .i64 0, .int .i64 0, .int .i64 0, .int .i64 0, Value.pointer none, Value.pointer none, Value.pointer none, Value.map none, Value.pointer none, Value.pointer none])) 90] (fun v L' => v = .tuple #[.agg #[Value.slice none 0 0, Value.slice none 0 0], .int .i64 7] ∧ L' = [var g1 (Value.pointer none :: .int .i64 0 :: .int .i64 0 :: .int .i64 0 :: .int .u64 0 :: Value.slice none 0 0 :: (rp 14 (.int .i64 0) [Value.slice none 0 0, .int .i64 0, .int .i64 0, .int .i64 0, .int .i64 0, Value.pointer none, Value.pointer none, Value.pointer none, Value.map none, Value.pointer none, Value.pointer none])) 90]) := by
 refine Tri.en F32 rfl K32 rfl fun w0 => ?_
 refine J.co 2 rfl ?_
 refine O.l (Lo.bx rfl rfl) rfl ?_
 rintro _ _ ⟨g105, rfl, rfl⟩
 refine O.l (Lo.bx rfl rfl) rfl ?_
 rintro _ _ ⟨g106, rfl, rfl⟩
 refine O.l (Lo.al Y36 rfl) rfl ?_
 rintro _ _ ⟨g107, rfl, rfl⟩
 refine O.oo 4 rfl ?_
 refine O.q (Qt.lv 2 A29 rfl rfl rfl) rfl ?_
 refine O.p (Pu.makeFunc [.pointer (some ⟨g105, 0, none⟩), .pointer (some ⟨g106, 0, none⟩)] rfl) rfl ?_
 refine O.l (Lo.ca C76 (nb5 g1 g105 g106) [3] rfl rfl .nil) rfl ?_
 rintro _ _ ⟨_, ⟨rfl, rfl⟩, rfl⟩
 refine O.oo 2 rfl ?_
 refine O.l0 (Lo.st 1 Z36 rfl rfl rfl rfl rfl rfl rfl) ?_
 rintro _ _ rfl
 refine O.oc 2 rfl ?_
 exact J.rn [_, _] [0] rfl ⟨⟨_, _, 0, 0, _, rfl, Cel.var 1 rfl, rfl, Cut.agg _ A36 Z36 rfl rfl⟩, rfl, trivial⟩ rfl ⟨rfl, rfl⟩

set_option maxRecDepth 100000 in
theorem nb7 (g110 : Nat) (g111 : Nat) (g112 : Nat) : Tri Tryz.prog 76 #[Value.pointer none, .func (.func 189) #[] #[.pointer (some ⟨g110, 0, none⟩), .pointer (some ⟨g111, 0, none⟩), .pointer (some ⟨g112, 0, none⟩)]] [] [] (fun v L' => v = .tuple #[.agg #[Value.slice none 0 0, Value.slice none 0 0], .int .i64 7] ∧ L' = []) := by
 refine Tri.en F76 rfl K76 rfl fun w0 => ?_
 refine J.co 2 rfl ?_
 refine O.l (Lo.al Y36 rfl) rfl ?_
 rintro _ _ ⟨g114, rfl, rfl⟩
 refine O.oo 6 rfl ?_
 refine O.l (Lo.ca C39 nb1 [] rfl rfl .nil) rfl ?_
 rintro _ _ ⟨_, ⟨rfl, rfl⟩, rfl⟩
 refine O.oo 5 rfl ?_
 refine O.p (Pu.build [] [Value.slice none 0 0, Value.slice none 0 0] #[(0, 1), (1, 1)] U36 Y36 (places36 N36) rfl (by kernel_rfl)) rfl ?_
 refine O.l0 (Lo.st 0 Z36 rfl rfl rfl rfl rfl rfl rfl) ?_
 rintro _ _ rfl
 refine O.oc 2 rfl ?_
 exact J.rn [_, _] [] rfl ⟨⟨_, _, 0, 0, _, rfl, Cel.var 0 rfl, rfl, Cut.agg _ A36 Z36 rfl rfl⟩, rfl, trivial⟩ rfl ⟨rfl, rfl⟩

set_option maxRecDepth 100000 in
theorem nb8 (x1 : Int) : Tri Tryz.prog 87 #[Value.pointer none, .int .i64 x1, .func (.func 88) #[Value.pointer none] #[]] [] [] (fun v L' => v = .tuple #[.agg #[Value.slice none 0 0, Value.slice none 0 0], .int .i64 7] ∧ L' = []) := by
 refine Tri.en F87 rfl K87 rfl fun w0 => ?_
 refine J.co 2 rfl ?_
 refine O.l (Lo.bx rfl rfl) rfl ?_
 rintro _ _ ⟨g110, rfl, rfl⟩
 refine O.l (Lo.bx rfl rfl) rfl ?_
 rintro _ _ ⟨g111, rfl, rfl⟩
 refine O.l (Lo.bx rfl rfl) rfl ?_
 rintro _ _ ⟨g112, rfl, rfl⟩
 refine O.l (Lo.al Y36 rfl) rfl ?_
 rintro _ _ ⟨g113, rfl, rfl⟩
 refine O.oo 4 rfl ?_
 refine O.q (Qt.lv 3 A29 rfl rfl rfl) rfl ?_
 refine O.p (Pu.makeFunc [.pointer (some ⟨g110, 0, none⟩), .pointer (some ⟨g111, 0, none⟩), .pointer (some ⟨g112, 0, none⟩)] rfl) rfl ?_
 refine O.l (Lo.ca C76 (nb7 g110 g111 g112) [] rfl rfl .nil) rfl ?_
 rintro _ _ ⟨_, ⟨rfl, rfl⟩, rfl⟩
 refine O.oo 2 rfl ?_
 refine O.l0 (Lo.st 0 Z36 rfl rfl rfl rfl rfl rfl rfl) ?_
 rintro _ _ rfl
 refine O.oc 2 rfl ?_
 exact J.rn [_, _] [] rfl ⟨⟨_, _, 0, 0, _, rfl, Cel.var 0 rfl, rfl, Cut.agg _ A36 Z36 rfl rfl⟩, rfl, trivial⟩ rfl ⟨rfl, rfl⟩

set_option maxRecDepth 100000 in
theorem nn_Done (x1 : Int) : Tri Tryz.prog 33 #[Value.pointer none, .int .i64 x1] [] [] (fun v L' => v = .tuple #[.agg #[Value.slice none 0 0, Value.slice none 0 0], .int .i64 7] ∧ L' = []) := by
 refine Tri.en F33 rfl K33 rfl fun w0 => ?_
 refine J.co 2 rfl ?_
 refine O.l (Lo.al Y36 rfl) rfl ?_
 rintro _ _ ⟨g109, rfl, rfl⟩
 refine O.oo 7 rfl ?_
 refine O.p (Pu.makeFuncB [Value.pointer none] [] rfl rfl) rfl ?_
 refine O.l (Lo.ca C87 (nb8 x1) [] rfl rfl .nil) rfl ?_
 rintro _ _ ⟨_, ⟨rfl, rfl⟩, rfl⟩
 refine O.oo 2 rfl ?_
 refine O.l0 (Lo.st 0 Z36 rfl rfl rfl rfl rfl rfl rfl) ?_
 rintro _ _ rfl
 refine O.oc 2 rfl ?_
 exact J.rn [_, _] [] rfl ⟨⟨_, _, 0, 0, _, rfl, Cel.var 0 rfl, rfl, Cut.agg _ A36 Z36 rfl rfl⟩, rfl, trivial⟩ rfl ⟨rfl, rfl⟩

set_option maxRecDepth 100000 in
theorem nb10 (g1 : Nat) (g116 : Nat) (g117 : Nat) (g118 : Nat) : Tri Tryz.prog 76 #[.pointer (some ⟨g1, 0, none⟩), .func (.func 189) #[] #[.pointer (some ⟨g116, 0, none⟩), .pointer (some ⟨g117, 0, none⟩), .pointer (some ⟨g118, 0, none⟩)]] [] [var g1 (Value.pointer none :: .int .i64 0 :: .int .i64 0 :: .int .i64 0 :: .int .u64 0 :: Value.slice none 0 0 :: (rp 14 (.int .i64 0) [Value.slice none 0 0, .int .i64 0, .int .i64 0, .int .i64 0, .int .i64 0, Value.pointer none, Value.pointer none, Value.pointer none, Value.map none, Value.pointer none, Value.pointer none])) 90] (fun v L' => v = .tuple #[.agg #[Value.slice none 0 0, Value.slice none 0 0], .int .i64 7] ∧ L' = [var g1 (Value.pointer none :: .int .i64 0 :: .int .i64 0 :: .int .i64 0 :: .int .u64 0 :: Value.slice none 0 0 :: (rp 14 (.int .i64 0) [Value.slice none 0 0, .int .i64 0, .int .i64 0, .int .i64 0, .int .i64 0, Value.pointer none, Value.pointer none, Value.pointer none, Value.map none, Value.pointer none, Value.pointer none])) 90]) := by
 refine Tri.en F76 rfl K76 rfl fun w0 => ?_
 refine J.co 2 rfl ?_
 refine O.l (Lo.al Y36 rfl) rfl ?_
 rintro _ _ ⟨g120, rfl, rfl⟩
 refine O.oo 6 rfl ?_
 refine O.l (Lo.ca C39 (nb4 g1) [1] rfl rfl .nil) rfl ?_
 rintro _ _ ⟨_, ⟨rfl, rfl⟩, rfl⟩
 refine O.oo 5 rfl ?_
 refine O.p (Pu.build [] [Value.slice none 0 0, Value.slice none 0 0] #[(0, 1), (1, 1)] U36 Y36 (places36 N36) rfl (by kernel_rfl)) rfl ?_
 refine O.l0 (Lo.st 1 Z36 rfl rfl rfl rfl rfl rfl rfl) ?_
 rintro _ _ rfl
 refine O.oc 2 rfl ?_
 exact J.rn [_, _] [0] rfl ⟨⟨_, _, 0, 0, _, rfl, Cel.var 1 rfl, rfl, Cut.agg _ A36 Z36 rfl rfl⟩, rfl, trivial⟩ rfl ⟨rfl, rfl⟩

set_option maxRecDepth 100000 in
theorem nb11 (g1 : Nat) (x1 : Int) : Tri Tryz.prog 87 #[.pointer (some ⟨g1, 0, none⟩), .int .i64 x1, .func (.func 88) #[.pointer (some ⟨g1, 0, none⟩)] #[]] [] [var g1 (Value.pointer none :: .int .i64 0 :: .int .i64 0 :: .int .i64 0 :: .int .u64 0 :: Value.slice none 0 0 :: (rp 14 (.int .i64 0) [Value.slice none 0 0, .int .i64 0, .int .i64 0, .int .i64 0, .int .i64 0, Value.pointer none, Value.pointer none, Value.pointer none, Value.map none, Value.pointer none, Value.pointer none])) 90] (fun v L' => v = .tuple #[.agg #[Value.slice none 0 0, Value.slice none 0 0], .int .i64 7] ∧ L' = [var g1 (Value.pointer none :: .int .i64 0 :: .int .i64 0 :: .int .i64 0 :: .int .u64 0 :: Value.slice none 0 0 :: (rp 14 (.int .i64 0) [Value.slice none 0 0, .int .i64 0, .int .i64 0, .int .i64 0, .int .i64 0, Value.pointer none, Value.pointer none, Value.pointer none, Value.map none, Value.pointer none, Value.pointer none])) 90]) := by
 refine Tri.en F87 rfl K87 rfl fun w0 => ?_
 refine J.co 2 rfl ?_
 refine O.l (Lo.bx rfl rfl) rfl ?_
 rintro _ _ ⟨g116, rfl, rfl⟩
 refine O.l (Lo.bx rfl rfl) rfl ?_
 rintro _ _ ⟨g117, rfl, rfl⟩
 refine O.l (Lo.bx rfl rfl) rfl ?_
 rintro _ _ ⟨g118, rfl, rfl⟩
 refine O.l (Lo.al Y36 rfl) rfl ?_
 rintro _ _ ⟨g119, rfl, rfl⟩
 refine O.oo 4 rfl ?_
 refine O.q (Qt.lv 3 A29 rfl rfl rfl) rfl ?_
 refine O.p (Pu.makeFunc [.pointer (some ⟨g116, 0, none⟩), .pointer (some ⟨g117, 0, none⟩), .pointer (some ⟨g118, 0, none⟩)] rfl) rfl ?_
 refine O.l (Lo.ca C76 (nb10 g1 g116 g117 g118) [4] rfl rfl .nil) rfl ?_
 rintro _ _ ⟨_, ⟨rfl, rfl⟩, rfl⟩
 refine O.oo 2 rfl ?_
 refine O.l0 (Lo.st 1 Z36 rfl rfl rfl rfl rfl rfl rfl) ?_
 rintro _ _ rfl
 refine O.oc 2 rfl ?_
 exact J.rn [_, _] [0] rfl ⟨⟨_, _, 0, 0, _, rfl, Cel.var 1 rfl, rfl, Cut.agg _ A36 Z36 rfl rfl⟩, rfl, trivial⟩ rfl ⟨rfl, rfl⟩

set_option maxRecDepth 100000 in
theorem no_Done (g1 : Nat) (x1 : Int) : Tri Tryz.prog 33 #[.pointer (some ⟨g1, 0, none⟩), .int .i64 x1] [] [var g1 (Value.pointer none :: .int .i64 0 :: .int .i64 0 :: .int .i64 0 :: .int .u64 0 :: Value.slice none 0 0 :: (rp 14 (.int .i64 0) [Value.slice none 0 0, .int .i64 0, .int .i64 0, .int .i64 0, .int .i64 0, Value.pointer none, Value.pointer none, Value.pointer none, Value.map none, Value.pointer none, Value.pointer none])) 90] (fun v L' => v = .tuple #[.agg #[Value.slice none 0 0, Value.slice none 0 0], .int .i64 7] ∧ L' = [var g1 (Value.pointer none :: .int .i64 0 :: .int .i64 0 :: .int .i64 0 :: .int .u64 0 :: Value.slice none 0 0 :: (rp 14 (.int .i64 0) [Value.slice none 0 0, .int .i64 0, .int .i64 0, .int .i64 0, .int .i64 0, Value.pointer none, Value.pointer none, Value.pointer none, Value.map none, Value.pointer none, Value.pointer none])) 90]) := by
 refine Tri.en F33 rfl K33 rfl fun w0 => ?_
 refine J.co 2 rfl ?_
 refine O.l (Lo.al Y36 rfl) rfl ?_
 rintro _ _ ⟨g115, rfl, rfl⟩
 refine O.oo 7 rfl ?_
 refine O.p (Pu.makeFuncB [.pointer (some ⟨g1, 0, none⟩)] [] rfl rfl) rfl ?_
 refine O.l (Lo.ca C87 (nb11 g1 x1) [1] rfl rfl .nil) rfl ?_
 rintro _ _ ⟨_, ⟨rfl, rfl⟩, rfl⟩
 refine O.oo 2 rfl ?_
 refine O.l0 (Lo.st 1 Z36 rfl rfl rfl rfl rfl rfl rfl) ?_
 rintro _ _ rfl
 refine O.oc 2 rfl ?_
 exact J.rn [_, _] [0] rfl ⟨⟨_, _, 0, 0, _, rfl, Cel.var 1 rfl, rfl, Cut.agg _ A36 Z36 rfl rfl⟩, rfl, trivial⟩ rfl ⟨rfl, rfl⟩

set_option maxRecDepth 100000 in
theorem nb13 (x1 : Int) : Tri Tryz.prog 87 #[Value.pointer none, .int .i64 x1, .func (.func 89) #[Value.pointer none] #[]] [] [] (fun v L' => v = .tuple #[.agg #[Value.slice none 0 0, Value.slice none 0 0], .int .i64 7] ∧ L' = []) := by
 refine Tri.en F87 rfl K87 rfl fun w0 => ?_
 refine J.co 2 rfl ?_
 refine O.l (Lo.bx rfl rfl) rfl ?_
 rintro _ _ ⟨g122, rfl, rfl⟩
 refine O.l (Lo.bx rfl rfl) rfl ?_
 rintro _ _ ⟨g123, rfl, rfl⟩
 refine O.l (Lo.bx rfl rfl) rfl ?_
 rintro _ _ ⟨g124, rfl, rfl⟩
 refine O.l (Lo.al Y36 rfl) rfl ?_
 rintro _ _ ⟨g125, rfl, rfl⟩
 refine O.oo 4 rfl ?_
 refine O.q (Qt.lv 3 A29 rfl rfl rfl) rfl ?_
 refine O.p (Pu.makeFunc [.pointer (some ⟨g122, 0, none⟩), .pointer (some ⟨g123, 0, none⟩), .pointer (some ⟨g124, 0, none⟩)] rfl) rfl ?_
 refine O.l (Lo.ca C76 (nb7 g122 g123 g124) [] rfl rfl .nil) rfl ?_
 rintro _ _ ⟨_, ⟨rfl, rfl⟩, rfl⟩
 refine O.oo 2 rfl ?_
 refine O.l0 (Lo.st 0 Z36 rfl rfl rfl rfl rfl rfl rfl) ?_
 rintro _ _ rfl
 refine O.oc 2 rfl ?_
 exact J.rn [_, _] [] rfl ⟨⟨_, _, 0, 0, _, rfl, Cel.var 0 rfl, rfl, Cut.agg _ A36 Z36 rfl rfl⟩, rfl, trivial⟩ rfl ⟨rfl, rfl⟩

set_option maxRecDepth 100000 in
theorem nn_Broken (x1 : Int) : Tri Tryz.prog 34 #[Value.pointer none, .int .i64 x1] [] [] (fun v L' => v = .tuple #[.agg #[Value.slice none 0 0, Value.slice none 0 0], .int .i64 7] ∧ L' = []) := by
 refine Tri.en F34 rfl K34 rfl fun w0 => ?_
 refine J.co 2 rfl ?_
 refine O.l (Lo.al Y36 rfl) rfl ?_
 rintro _ _ ⟨g121, rfl, rfl⟩
 refine O.oo 7 rfl ?_
 refine O.p (Pu.makeFuncB [Value.pointer none] [] rfl rfl) rfl ?_
 refine O.l (Lo.ca C87 (nb13 x1) [] rfl rfl .nil) rfl ?_
 rintro _ _ ⟨_, ⟨rfl, rfl⟩, rfl⟩
 refine O.oo 2 rfl ?_
 refine O.l0 (Lo.st 0 Z36 rfl rfl rfl rfl rfl rfl rfl) ?_
 rintro _ _ rfl
 refine O.oc 2 rfl ?_
 exact J.rn [_, _] [] rfl ⟨⟨_, _, 0, 0, _, rfl, Cel.var 0 rfl, rfl, Cut.agg _ A36 Z36 rfl rfl⟩, rfl, trivial⟩ rfl ⟨rfl, rfl⟩

set_option maxRecDepth 100000 in
theorem nb15 (g1 : Nat) (x1 : Int) : Tri Tryz.prog 87 #[.pointer (some ⟨g1, 0, none⟩), .int .i64 x1, .func (.func 89) #[.pointer (some ⟨g1, 0, none⟩)] #[]] [] [var g1 (Value.pointer none :: .int .i64 0 :: .int .i64 0 :: .int .i64 0 :: .int .u64 0 :: Value.slice none 0 0 :: (rp 14 (.int .i64 0) [Value.slice none 0 0, .int .i64 0, .int .i64 0, .int .i64 0, .int .i64 0, Value.pointer none, Value.pointer none, Value.pointer none, Value.map none, Value.pointer none, Value.pointer none])) 90] (fun v L' => v = .tuple #[.agg #[Value.slice none 0 0, Value.slice none 0 0], .int .i64 7] ∧ L' = [var g1 (Value.pointer none :: .int .i64 0 :: .int .i64 0 :: .int .i64 0 :: .int .u64 0 :: Value.slice none 0 0 :: (rp 14 (.int .i64 0) [Value.slice none 0 0, .int .i64 0, .int .i64 0, .int .i64 0, .int .i64 0, Value.pointer none, Value.pointer none, Value.pointer none, Value.map none, Value.pointer none, Value.pointer none])) 90]) := by
 refine Tri.en F87 rfl K87 rfl fun w0 => ?_
 refine J.co 2 rfl ?_
 refine O.l (Lo.bx rfl rfl) rfl ?_
 rintro _ _ ⟨g127, rfl, rfl⟩
 refine O.l (Lo.bx rfl rfl) rfl ?_
 rintro _ _ ⟨g128, rfl, rfl⟩
 refine O.l (Lo.bx rfl rfl) rfl ?_
 rintro _ _ ⟨g129, rfl, rfl⟩
 refine O.l (Lo.al Y36 rfl) rfl ?_
 rintro _ _ ⟨g130, rfl, rfl⟩
 refine O.oo 4 rfl ?_
 refine O.q (Qt.lv 3 A29 rfl rfl rfl) rfl ?_
 refine O.p (Pu.makeFunc [.pointer (some ⟨g127, 0, none⟩), .pointer (some ⟨g128, 0, none⟩), .pointer (some ⟨g129, 0, none⟩)] rfl) rfl ?_
 refine O.l (Lo.ca C76 (nb10 g1 g127 g128 g129) [4] rfl rfl .nil) rfl ?_
 rintro _ _ ⟨_, ⟨rfl, rfl⟩, rfl⟩
 refine O.oo 2 rfl ?_
 refine O.l0 (Lo.st 1 Z36 rfl rfl rfl rfl rfl rfl rfl) ?_
 rintro _ _ rfl
 refine O.oc 2 rfl ?_
 exact J.rn [_, _] [0] rfl ⟨⟨_, _, 0, 0, _, rfl, Cel.var 1 rfl, rfl, Cut.agg _ A36 Z36 rfl rfl⟩, rfl, trivial⟩ rfl ⟨rfl, rfl⟩

set_option maxRecDepth 100000 in
theorem no_Broken (g1 : Nat) (x1 : Int) : Tri Tryz.prog 34 #[.pointer (some ⟨g1, 0, none⟩), .int .i64 x1] [] [var g1 (Value.pointer none :: .int .i64 0 :: .int .i64 0 :: .int .i64 0 :: .int .u64 0 :: Value.slice none 0 0 :: (rp 14 (.int .i64 0) [Value.slice none 0 0, .int .i64 0, .int .i64 0, .int .i64 0, .int .i64 0, Value.pointer none, Value.pointer none, Value.pointer none, Value.map none, Value.pointer none, Value.pointer none])) 90] (fun v L' => v = .tuple #[.agg #[Value.slice none 0 0, Value.slice none 0 0], .int .i64 7] ∧ L' = [var g1 (Value.pointer none :: .int .i64 0 :: .int .i64 0 :: .int .i64 0 :: .int .u64 0 :: Value.slice none 0 0 :: (rp 14 (.int .i64 0) [Value.slice none 0 0, .int .i64 0, .int .i64 0, .int .i64 0, .int .i64 0, Value.pointer none, Value.pointer none, Value.pointer none, Value.map none, Value.pointer none, Value.pointer none])) 90]) := by
 refine Tri.en F34 rfl K34 rfl fun w0 => ?_
 refine J.co 2 rfl ?_
 refine O.l (Lo.al Y36 rfl) rfl ?_
 rintro _ _ ⟨g126, rfl, rfl⟩
 refine O.oo 7 rfl ?_
 refine O.p (Pu.makeFuncB [.pointer (some ⟨g1, 0, none⟩)] [] rfl rfl) rfl ?_
 refine O.l (Lo.ca C87 (nb15 g1 x1) [1] rfl rfl .nil) rfl ?_
 rintro _ _ ⟨_, ⟨rfl, rfl⟩, rfl⟩
 refine O.oo 2 rfl ?_
 refine O.l0 (Lo.st 1 Z36 rfl rfl rfl rfl rfl rfl rfl) ?_
 rintro _ _ rfl
 refine O.oc 2 rfl ?_
 exact J.rn [_, _] [0] rfl ⟨⟨_, _, 0, 0, _, rfl, Cel.var 1 rfl, rfl, Cut.agg _ A36 Z36 rfl rfl⟩, rfl, trivial⟩ rfl ⟨rfl, rfl⟩

set_option maxRecDepth 100000 in
theorem nb17 (g132 : Nat) (g131 : Nat) : Tri Tryz.prog 76 #[Value.pointer none, .func (.func 90) #[] #[.pointer (some ⟨g132, 0, none⟩), .pointer (some ⟨g131, 0, none⟩)]] [] [] (fun v L' => v = .tuple #[.agg #[Value.slice none 0 0, Value.slice none 0 0], .int .i64 7] ∧ L' = []) := by
 refine Tri.en F76 rfl K76 rfl fun w0 => ?_
 refine J.co 2 rfl ?_
 refine O.l (Lo.al Y36 rfl) rfl ?_
 rintro _ _ ⟨g134, rfl, rfl⟩
 refine O.oo 6 rfl ?_
 refine O.l (Lo.ca C39 nb1 [] rfl rfl .nil) rfl ?_
 rintro _ _ ⟨_, ⟨rfl, rfl⟩, rfl⟩
 refine O.oo 5 rfl ?_
 refine O.p (Pu.build [] [Value.slice none 0 0, Value.slice none 0 0] #[(0, 1), (1, 1)] U36 Y36 (places36 N36) rfl (by kernel_rfl)) rfl ?_
 refine O.l0 (Lo.st 0 Z36 rfl rfl rfl rfl rfl rfl rfl) ?_
 rintro _ _ rfl
 refine O.oc 2 rfl ?_
 exact J.rn [_, _] [] rfl ⟨⟨_, _, 0, 0, _, rfl, Cel.var 0 rfl, rfl, Cut.agg _ A36 Z36 rfl rfl⟩, rfl, trivial⟩ rfl ⟨rfl, rfl⟩

set_option maxRecDepth 100000 in
theorem nn_Reply (x1 : Int) (x2 : Int) (x3 : Int) (x4 : Int) (x5 : Int) (x6 : Int) (x7 : Int) : Tri Tryz.prog 35 #[Value.pointer none, .agg #[.int .i64 x1, .int .i64 x2, .int .i64 x3, .int .i64 x4, .int .i64 x5, .int .i64 x6, .int .i64 x7]] [] [] (fun v L' => v = .tuple #[.agg #[Value.slice none 0 0, Value.slice none 0 0], .int .i64 7] ∧ L' = []) := by
 refine Tri.en F35 rfl K35 rfl fun w0 => ?_
 refine J.co 2 rfl ?_
 refine O.l (Lo.bx rfl rfl) rfl ?_
 rintro _ _ ⟨g131, rfl, rfl⟩
 refine O.l (Lo.bx rfl rfl) rfl ?_
 rintro _ _ ⟨g132, rfl, rfl⟩
 refine O.l (Lo.al Y36 rfl) rfl ?_
 rintro _ _ ⟨g133, rfl, rfl⟩
 refine O.oo 4 rfl ?_
 refine O.q (Qt.lv 2 A29 rfl rfl rfl) rfl ?_
 refine O.p (Pu.makeFunc [.pointer (some ⟨g132, 0, none⟩), .pointer (some ⟨g131, 0, none⟩)] rfl) rfl ?_
 refine O.l (Lo.ca C76 (nb17 g132 g131) [] rfl rfl .nil) rfl ?_
 rintro _ _ ⟨_, ⟨rfl, rfl⟩, rfl⟩
 refine O.oo 2 rfl ?_
 refine O.l0 (Lo.st 0 Z36 rfl rfl rfl rfl rfl rfl rfl) ?_
 rintro _ _ rfl
 refine O.oc 2 rfl ?_
 exact J.rn [_, _] [] rfl ⟨⟨_, _, 0, 0, _, rfl, Cel.var 0 rfl, rfl, Cut.agg _ A36 Z36 rfl rfl⟩, rfl, trivial⟩ rfl ⟨rfl, rfl⟩

set_option maxRecDepth 100000 in
theorem nb19 (g1 : Nat) (g136 : Nat) (g135 : Nat) : Tri Tryz.prog 76 #[.pointer (some ⟨g1, 0, none⟩), .func (.func 90) #[] #[.pointer (some ⟨g136, 0, none⟩), .pointer (some ⟨g135, 0, none⟩)]] [] [var g1 (Value.pointer none :: .int .i64 0 :: .int .i64 0 :: .int .i64 0 :: .int .u64 0 :: Value.slice none 0 0 :: (rp 14 (.int .i64 0) [Value.slice none 0 0, .int .i64 0, .int .i64 0, .int .i64 0, .int .i64 0, Value.pointer none, Value.pointer none, Value.pointer none, Value.map none, Value.pointer none, Value.pointer none])) 90] (fun v L' => v = .tuple #[.agg #[Value.slice none 0 0, Value.slice none 0 0], .int .i64 7] ∧ L' = [var g1 (Value.pointer none :: .int .i64 0 :: .int .i64 0 :: .int .i64 0 :: .int .u64 0 :: Value.slice none 0 0 :: (rp 14 (.int .i64 0) [Value.slice none 0 0, .int .i64 0, .int .i64 0, .int .i64 0, .int .i64 0, Value.pointer none, Value.pointer none, Value.pointer none, Value.map none, Value.pointer none, Value.pointer none])) 90]) := by
 refine Tri.en F76 rfl K76 rfl fun w0 => ?_
 refine J.co 2 rfl ?_
 refine O.l (Lo.al Y36 rfl) rfl ?_
 rintro _ _ ⟨g138, rfl, rfl⟩
 refine O.oo 6 rfl ?_
 refine O.l (Lo.ca C39 (nb4 g1) [1] rfl rfl .nil) rfl ?_
 rintro _ _ ⟨_, ⟨rfl, rfl⟩, rfl⟩
 refine O.oo 5 rfl ?_
 refine O.p (Pu.build [] [Value.slice none 0 0, Value.slice none 0 0] #[(0, 1), (1, 1)] U36 Y36 (places36 N36) rfl (by kernel_rfl)) rfl ?_
 refine O.l0 (Lo.st 1 Z36 rfl rfl rfl rfl rfl rfl rfl) ?_
 rintro _ _ rfl
 refine O.oc 2 rfl ?_
 exact J.rn [_, _] [0] rfl ⟨⟨_, _, 0, 0, _, rfl, Cel.var 1 rfl, rfl, Cut.agg _ A36 Z36 rfl rfl⟩, rfl, trivial⟩ rfl ⟨rfl, rfl⟩

set_option maxRecDepth 100000 in
theorem no_Reply (g1 : Nat) (x1 : Int) (x2 : Int) (x3 : Int) (x4 : Int) (x5 : Int) (x6 : Int) (x7 : Int) : Tri Tryz.prog 35 #[.pointer (some ⟨g1, 0, none⟩), .agg #[.int .i64 x1, .int .i64 x2, .int .i64 x3, .int .i64 x4, .int .i64 x5, .int .i64 x6, .int .i64 x7]] [] [var g1 (Value.pointer none :: .int .i64 0 :: .int .i64 0 :: .int .i64 0 :: .int .u64 0 :: Value.slice none 0 0 :: (rp 14 (.int .i64 0) [Value.slice none 0 0, .int .i64 0, .int .i64 0, .int .i64 0, .int .i64 0, Value.pointer none, Value.pointer none, Value.pointer none, Value.map none, Value.pointer none, Value.pointer none])) 90] (fun v L' => v = .tuple #[.agg #[Value.slice none 0 0, Value.slice none 0 0], .int .i64 7] ∧ L' = [var g1 (Value.pointer none :: .int .i64 0 :: .int .i64 0 :: .int .i64 0 :: .int .u64 0 :: Value.slice none 0 0 :: (rp 14 (.int .i64 0) [Value.slice none 0 0, .int .i64 0, .int .i64 0, .int .i64 0, .int .i64 0, Value.pointer none, Value.pointer none, Value.pointer none, Value.map none, Value.pointer none, Value.pointer none])) 90]) := by
 refine Tri.en F35 rfl K35 rfl fun w0 => ?_
 refine J.co 2 rfl ?_
 refine O.l (Lo.bx rfl rfl) rfl ?_
 rintro _ _ ⟨g135, rfl, rfl⟩
 refine O.l (Lo.bx rfl rfl) rfl ?_
 rintro _ _ ⟨g136, rfl, rfl⟩
 refine O.l (Lo.al Y36 rfl) rfl ?_
 rintro _ _ ⟨g137, rfl, rfl⟩
 refine O.oo 4 rfl ?_
 refine O.q (Qt.lv 2 A29 rfl rfl rfl) rfl ?_
 refine O.p (Pu.makeFunc [.pointer (some ⟨g136, 0, none⟩), .pointer (some ⟨g135, 0, none⟩)] rfl) rfl ?_
 refine O.l (Lo.ca C76 (nb19 g1 g136 g135) [3] rfl rfl .nil) rfl ?_
 rintro _ _ ⟨_, ⟨rfl, rfl⟩, rfl⟩
 refine O.oo 2 rfl ?_
 refine O.l0 (Lo.st 1 Z36 rfl rfl rfl rfl rfl rfl rfl) ?_
 rintro _ _ rfl
 refine O.oc 2 rfl ?_
 exact J.rn [_, _] [0] rfl ⟨⟨_, _, 0, 0, _, rfl, Cel.var 1 rfl, rfl, Cut.agg _ A36 Z36 rfl rfl⟩, rfl, trivial⟩ rfl ⟨rfl, rfl⟩

set_option maxRecDepth 100000 in
theorem nb21 (g140 : Nat) (g139 : Nat) : Tri Tryz.prog 76 #[Value.pointer none, .func (.func 97) #[] #[.pointer (some ⟨g140, 0, none⟩), .pointer (some ⟨g139, 0, none⟩)]] [] [] (fun v L' => v = .tuple #[.agg #[Value.slice none 0 0, Value.slice none 0 0], .int .i64 7] ∧ L' = []) := by
 refine Tri.en F76 rfl K76 rfl fun w0 => ?_
 refine J.co 2 rfl ?_
 refine O.l (Lo.al Y36 rfl) rfl ?_
 rintro _ _ ⟨g142, rfl, rfl⟩
 refine O.oo 6 rfl ?_
 refine O.l (Lo.ca C39 nb1 [] rfl rfl .nil) rfl ?_
 rintro _ _ ⟨_, ⟨rfl, rfl⟩, rfl⟩
 refine O.oo 5 rfl ?_
 refine O.p (Pu.build [] [Value.slice none 0 0, Value.slice none 0 0] #[(0, 1), (1, 1)] U36 Y36 (places36 N36) rfl (by kernel_rfl)) rfl ?_
 refine O.l0 (Lo.st 0 Z36 rfl rfl rfl rfl rfl rfl rfl) ?_
 rintro _ _ rfl
 refine O.oc 2 rfl ?_
 exact J.rn [_, _] [] rfl ⟨⟨_, _, 0, 0, _, rfl, Cel.var 0 rfl, rfl, Cut.agg _ A36 Z36 rfl rfl⟩, rfl, trivial⟩ rfl ⟨rfl, rfl⟩

set_option maxRecDepth 100000 in
theorem nn_Push (x1 : Int) (x2 : Int) (x3 : Int) (x4 : Int) (x5 : Int) (x6 : Int) (x7 : Int) (x8 : Int) (x9 : Int) : Tri Tryz.prog 36 #[Value.pointer none, .agg #[.int .i64 x1, .int .i64 x2, .int .i64 x3, .int .i64 x4, .int .i64 x5, .int .i64 x6, .int .i64 x7, .int .i64 x8, .int .i64 x9]] [] [] (fun v L' => v = .tuple #[.agg #[Value.slice none 0 0, Value.slice none 0 0], .int .i64 7] ∧ L' = []) := by
 refine Tri.en F36 rfl K36 rfl fun w0 => ?_
 refine J.co 2 rfl ?_
 refine O.l (Lo.bx rfl rfl) rfl ?_
 rintro _ _ ⟨g139, rfl, rfl⟩
 refine O.l (Lo.bx rfl rfl) rfl ?_
 rintro _ _ ⟨g140, rfl, rfl⟩
 refine O.l (Lo.al Y36 rfl) rfl ?_
 rintro _ _ ⟨g141, rfl, rfl⟩
 refine O.oo 4 rfl ?_
 refine O.q (Qt.lv 2 A29 rfl rfl rfl) rfl ?_
 refine O.p (Pu.makeFunc [.pointer (some ⟨g140, 0, none⟩), .pointer (some ⟨g139, 0, none⟩)] rfl) rfl ?_
 refine O.l (Lo.ca C76 (nb21 g140 g139) [] rfl rfl .nil) rfl ?_
 rintro _ _ ⟨_, ⟨rfl, rfl⟩, rfl⟩
 refine O.oo 2 rfl ?_
 refine O.l0 (Lo.st 0 Z36 rfl rfl rfl rfl rfl rfl rfl) ?_
 rintro _ _ rfl
 refine O.oc 2 rfl ?_
 exact J.rn [_, _] [] rfl ⟨⟨_, _, 0, 0, _, rfl, Cel.var 0 rfl, rfl, Cut.agg _ A36 Z36 rfl rfl⟩, rfl, trivial⟩ rfl ⟨rfl, rfl⟩

set_option maxRecDepth 100000 in
theorem nb23 (g1 : Nat) (g144 : Nat) (g143 : Nat) : Tri Tryz.prog 76 #[.pointer (some ⟨g1, 0, none⟩), .func (.func 97) #[] #[.pointer (some ⟨g144, 0, none⟩), .pointer (some ⟨g143, 0, none⟩)]] [] [var g1 (Value.pointer none :: .int .i64 0 :: .int .i64 0 :: .int .i64 0 :: .int .u64 0 :: Value.slice none 0 0 :: (rp 14 (.int .i64 0) [Value.slice none 0 0, .int .i64 0, .int .i64 0, .int .i64 0, .int .i64 0, Value.pointer none, Value.pointer none, Value.pointer none, Value.map none, Value.pointer none, Value.pointer none])) 90] (fun v L' => v = .tuple #[.agg #[Value.slice none 0 0, Value.slice none 0 0], .int .i64 7] ∧ L' = [var g1 (Value.pointer none :: .int .i64 0 :: .int .i64 0 :: .int .i64 0 :: .int .u64 0 :: Value.slice none 0 0 :: (rp 14 (.int .i64 0) [Value.slice none 0 0, .int .i64 0, .int .i64 0, .int .i64 0, .int .i64 0, Value.pointer none, Value.pointer none, Value.pointer none, Value.map none, Value.pointer none, Value.pointer none])) 90]) := by
 refine Tri.en F76 rfl K76 rfl fun w0 => ?_
 refine J.co 2 rfl ?_
 refine O.l (Lo.al Y36 rfl) rfl ?_
 rintro _ _ ⟨g146, rfl, rfl⟩
 refine O.oo 6 rfl ?_
 refine O.l (Lo.ca C39 (nb4 g1) [1] rfl rfl .nil) rfl ?_
 rintro _ _ ⟨_, ⟨rfl, rfl⟩, rfl⟩
 refine O.oo 5 rfl ?_
 refine O.p (Pu.build [] [Value.slice none 0 0, Value.slice none 0 0] #[(0, 1), (1, 1)] U36 Y36 (places36 N36) rfl (by kernel_rfl)) rfl ?_
 refine O.l0 (Lo.st 1 Z36 rfl rfl rfl rfl rfl rfl rfl) ?_
 rintro _ _ rfl
 refine O.oc 2 rfl ?_
 exact J.rn [_, _] [0] rfl ⟨⟨_, _, 0, 0, _, rfl, Cel.var 1 rfl, rfl, Cut.agg _ A36 Z36 rfl rfl⟩, rfl, trivial⟩ rfl ⟨rfl, rfl⟩

set_option maxRecDepth 100000 in
theorem no_Push (g1 : Nat) (x1 : Int) (x2 : Int) (x3 : Int) (x4 : Int) (x5 : Int) (x6 : Int) (x7 : Int) (x8 : Int) (x9 : Int) : Tri Tryz.prog 36 #[.pointer (some ⟨g1, 0, none⟩), .agg #[.int .i64 x1, .int .i64 x2, .int .i64 x3, .int .i64 x4, .int .i64 x5, .int .i64 x6, .int .i64 x7, .int .i64 x8, .int .i64 x9]] [] [var g1 (Value.pointer none :: .int .i64 0 :: .int .i64 0 :: .int .i64 0 :: .int .u64 0 :: Value.slice none 0 0 :: (rp 14 (.int .i64 0) [Value.slice none 0 0, .int .i64 0, .int .i64 0, .int .i64 0, .int .i64 0, Value.pointer none, Value.pointer none, Value.pointer none, Value.map none, Value.pointer none, Value.pointer none])) 90] (fun v L' => v = .tuple #[.agg #[Value.slice none 0 0, Value.slice none 0 0], .int .i64 7] ∧ L' = [var g1 (Value.pointer none :: .int .i64 0 :: .int .i64 0 :: .int .i64 0 :: .int .u64 0 :: Value.slice none 0 0 :: (rp 14 (.int .i64 0) [Value.slice none 0 0, .int .i64 0, .int .i64 0, .int .i64 0, .int .i64 0, Value.pointer none, Value.pointer none, Value.pointer none, Value.map none, Value.pointer none, Value.pointer none])) 90]) := by
 refine Tri.en F36 rfl K36 rfl fun w0 => ?_
 refine J.co 2 rfl ?_
 refine O.l (Lo.bx rfl rfl) rfl ?_
 rintro _ _ ⟨g143, rfl, rfl⟩
 refine O.l (Lo.bx rfl rfl) rfl ?_
 rintro _ _ ⟨g144, rfl, rfl⟩
 refine O.l (Lo.al Y36 rfl) rfl ?_
 rintro _ _ ⟨g145, rfl, rfl⟩
 refine O.oo 4 rfl ?_
 refine O.q (Qt.lv 2 A29 rfl rfl rfl) rfl ?_
 refine O.p (Pu.makeFunc [.pointer (some ⟨g144, 0, none⟩), .pointer (some ⟨g143, 0, none⟩)] rfl) rfl ?_
 refine O.l (Lo.ca C76 (nb23 g1 g144 g143) [3] rfl rfl .nil) rfl ?_
 rintro _ _ ⟨_, ⟨rfl, rfl⟩, rfl⟩
 refine O.oo 2 rfl ?_
 refine O.l0 (Lo.st 1 Z36 rfl rfl rfl rfl rfl rfl rfl) ?_
 rintro _ _ rfl
 refine O.oc 2 rfl ?_
 exact J.rn [_, _] [0] rfl ⟨⟨_, _, 0, 0, _, rfl, Cel.var 1 rfl, rfl, Cut.agg _ A36 Z36 rfl rfl⟩, rfl, trivial⟩ rfl ⟨rfl, rfl⟩

set_option maxRecDepth 100000 in
theorem nb25 (g147 : Nat) : Tri Tryz.prog 76 #[Value.pointer none, .func (.func 101) #[] #[.pointer (some ⟨g147, 0, none⟩)]] [] [] (fun v L' => v = .tuple #[.agg #[Value.slice none 0 0, Value.slice none 0 0], .int .i64 7] ∧ L' = []) := by
 refine Tri.en F76 rfl K76 rfl fun w0 => ?_
 refine J.co 2 rfl ?_
 refine O.l (Lo.al Y36 rfl) rfl ?_
 rintro _ _ ⟨g149, rfl, rfl⟩
 refine O.oo 6 rfl ?_
 refine O.l (Lo.ca C39 nb1 [] rfl rfl .nil) rfl ?_
 rintro _ _ ⟨_, ⟨rfl, rfl⟩, rfl⟩
 refine O.oo 5 rfl ?_
 refine O.p (Pu.build [] [Value.slice none 0 0, Value.slice none 0 0] #[(0, 1), (1, 1)] U36 Y36 (places36 N36) rfl (by kernel_rfl)) rfl ?_
 refine O.l0 (Lo.st 0 Z36 rfl rfl rfl rfl rfl rfl rfl) ?_
 rintro _ _ rfl
 refine O.oc 2 rfl ?_
 exact J.rn [_, _] [] rfl ⟨⟨_, _, 0, 0, _, rfl, Cel.var 0 rfl, rfl, Cut.agg _ A36 Z36 rfl rfl⟩, rfl, trivial⟩ rfl ⟨rfl, rfl⟩

set_option maxRecDepth 100000 in
theorem nn_Tick : Tri Tryz.prog 37 #[Value.pointer none] [] [] (fun v L' => v = .tuple #[.agg #[Value.slice none 0 0, Value.slice none 0 0], .int .i64 7] ∧ L' = []) := by
 refine Tri.en F37 rfl K37 rfl fun w0 => ?_
 refine J.co 2 rfl ?_
 refine O.l (Lo.bx rfl rfl) rfl ?_
 rintro _ _ ⟨g147, rfl, rfl⟩
 refine O.l (Lo.al Y36 rfl) rfl ?_
 rintro _ _ ⟨g148, rfl, rfl⟩
 refine O.oo 4 rfl ?_
 refine O.q (Qt.lv 1 A29 rfl rfl rfl) rfl ?_
 refine O.p (Pu.makeFunc [.pointer (some ⟨g147, 0, none⟩)] rfl) rfl ?_
 refine O.l (Lo.ca C76 (nb25 g147) [] rfl rfl .nil) rfl ?_
 rintro _ _ ⟨_, ⟨rfl, rfl⟩, rfl⟩
 refine O.oo 2 rfl ?_
 refine O.l0 (Lo.st 0 Z36 rfl rfl rfl rfl rfl rfl rfl) ?_
 rintro _ _ rfl
 refine O.oc 2 rfl ?_
 exact J.rn [_, _] [] rfl ⟨⟨_, _, 0, 0, _, rfl, Cel.var 0 rfl, rfl, Cut.agg _ A36 Z36 rfl rfl⟩, rfl, trivial⟩ rfl ⟨rfl, rfl⟩

set_option maxRecDepth 100000 in
theorem nb27 (g1 : Nat) (g150 : Nat) : Tri Tryz.prog 76 #[.pointer (some ⟨g1, 0, none⟩), .func (.func 101) #[] #[.pointer (some ⟨g150, 0, none⟩)]] [] [var g1 (Value.pointer none :: .int .i64 0 :: .int .i64 0 :: .int .i64 0 :: .int .u64 0 :: Value.slice none 0 0 :: (rp 14 (.int .i64 0) [Value.slice none 0 0, .int .i64 0, .int .i64 0, .int .i64 0, .int .i64 0, Value.pointer none, Value.pointer none, Value.pointer none, Value.map none, Value.pointer none, Value.pointer none])) 90] (fun v L' => v = .tuple #[.agg #[Value.slice none 0 0, Value.slice none 0 0], .int .i64 7] ∧ L' = [var g1 (Value.pointer none :: .int .i64 0 :: .int .i64 0 :: .int .i64 0 :: .int .u64 0 :: Value.slice none 0 0 :: (rp 14 (.int .i64 0) [Value.slice none 0 0, .int .i64 0, .int .i64 0, .int .i64 0, .int .i64 0, Value.pointer none, Value.pointer none, Value.pointer none, Value.map none, Value.pointer none, Value.pointer none])) 90]) := by
 refine Tri.en F76 rfl K76 rfl fun w0 => ?_
 refine J.co 2 rfl ?_
 refine O.l (Lo.al Y36 rfl) rfl ?_
 rintro _ _ ⟨g152, rfl, rfl⟩
 refine O.oo 6 rfl ?_
 refine O.l (Lo.ca C39 (nb4 g1) [1] rfl rfl .nil) rfl ?_
 rintro _ _ ⟨_, ⟨rfl, rfl⟩, rfl⟩
 refine O.oo 5 rfl ?_
 refine O.p (Pu.build [] [Value.slice none 0 0, Value.slice none 0 0] #[(0, 1), (1, 1)] U36 Y36 (places36 N36) rfl (by kernel_rfl)) rfl ?_
 refine O.l0 (Lo.st 1 Z36 rfl rfl rfl rfl rfl rfl rfl) ?_
 rintro _ _ rfl
 refine O.oc 2 rfl ?_
 exact J.rn [_, _] [0] rfl ⟨⟨_, _, 0, 0, _, rfl, Cel.var 1 rfl, rfl, Cut.agg _ A36 Z36 rfl rfl⟩, rfl, trivial⟩ rfl ⟨rfl, rfl⟩

set_option maxRecDepth 100000 in
theorem no_Tick (g1 : Nat) : Tri Tryz.prog 37 #[.pointer (some ⟨g1, 0, none⟩)] [] [var g1 (Value.pointer none :: .int .i64 0 :: .int .i64 0 :: .int .i64 0 :: .int .u64 0 :: Value.slice none 0 0 :: (rp 14 (.int .i64 0) [Value.slice none 0 0, .int .i64 0, .int .i64 0, .int .i64 0, .int .i64 0, Value.pointer none, Value.pointer none, Value.pointer none, Value.map none, Value.pointer none, Value.pointer none])) 90] (fun v L' => v = .tuple #[.agg #[Value.slice none 0 0, Value.slice none 0 0], .int .i64 7] ∧ L' = [var g1 (Value.pointer none :: .int .i64 0 :: .int .i64 0 :: .int .i64 0 :: .int .u64 0 :: Value.slice none 0 0 :: (rp 14 (.int .i64 0) [Value.slice none 0 0, .int .i64 0, .int .i64 0, .int .i64 0, .int .i64 0, Value.pointer none, Value.pointer none, Value.pointer none, Value.map none, Value.pointer none, Value.pointer none])) 90]) := by
 refine Tri.en F37 rfl K37 rfl fun w0 => ?_
 refine J.co 2 rfl ?_
 refine O.l (Lo.bx rfl rfl) rfl ?_
 rintro _ _ ⟨g150, rfl, rfl⟩
 refine O.l (Lo.al Y36 rfl) rfl ?_
 rintro _ _ ⟨g151, rfl, rfl⟩
 refine O.oo 4 rfl ?_
 refine O.q (Qt.lv 1 A29 rfl rfl rfl) rfl ?_
 refine O.p (Pu.makeFunc [.pointer (some ⟨g150, 0, none⟩)] rfl) rfl ?_
 refine O.l (Lo.ca C76 (nb27 g1 g150) [2] rfl rfl .nil) rfl ?_
 rintro _ _ ⟨_, ⟨rfl, rfl⟩, rfl⟩
 refine O.oo 2 rfl ?_
 refine O.l0 (Lo.st 1 Z36 rfl rfl rfl rfl rfl rfl rfl) ?_
 rintro _ _ rfl
 refine O.oc 2 rfl ?_
 exact J.rn [_, _] [0] rfl ⟨⟨_, _, 0, 0, _, rfl, Cel.var 1 rfl, rfl, Cut.agg _ A36 Z36 rfl rfl⟩, rfl, trivial⟩ rfl ⟨rfl, rfl⟩

set_option maxRecDepth 100000 in
theorem nb29 (g153 : Nat) : Tri Tryz.prog 76 #[Value.pointer none, .func (.func 107) #[] #[.pointer (some ⟨g153, 0, none⟩)]] [] [] (fun v L' => v = .tuple #[.agg #[Value.slice none 0 0, Value.slice none 0 0], .int .i64 7] ∧ L' = []) := by
 refine Tri.en F76 rfl K76 rfl fun w0 => ?_
 refine J.co 2 rfl ?_
 refine O.l (Lo.al Y36 rfl) rfl ?_
 rintro _ _ ⟨g155, rfl, rfl⟩
 refine O.oo 6 rfl ?_
 refine O.l (Lo.ca C39 nb1 [] rfl rfl .nil) rfl ?_
 rintro _ _ ⟨_, ⟨rfl, rfl⟩, rfl⟩
 refine O.oo 5 rfl ?_
 refine O.p (Pu.build [] [Value.slice none 0 0, Value.slice none 0 0] #[(0, 1), (1, 1)] U36 Y36 (places36 N36) rfl (by kernel_rfl)) rfl ?_
 refine O.l0 (Lo.st 0 Z36 rfl rfl rfl rfl rfl rfl rfl) ?_
 rintro _ _ rfl
 refine O.oc 2 rfl ?_
 exact J.rn [_, _] [] rfl ⟨⟨_, _, 0, 0, _, rfl, Cel.var 0 rfl, rfl, Cut.agg _ A36 Z36 rfl rfl⟩, rfl, trivial⟩ rfl ⟨rfl, rfl⟩

set_option maxRecDepth 100000 in
theorem nn_Restart : Tri Tryz.prog 38 #[Value.pointer none] [] [] (fun v L' => v = .tuple #[.agg #[Value.slice none 0 0, Value.slice none 0 0], .int .i64 7] ∧ L' = []) := by
 refine Tri.en F38 rfl K38 rfl fun w0 => ?_
 refine J.co 2 rfl ?_
 refine O.l (Lo.bx rfl rfl) rfl ?_
 rintro _ _ ⟨g153, rfl, rfl⟩
 refine O.l (Lo.al Y36 rfl) rfl ?_
 rintro _ _ ⟨g154, rfl, rfl⟩
 refine O.oo 4 rfl ?_
 refine O.q (Qt.lv 1 A29 rfl rfl rfl) rfl ?_
 refine O.p (Pu.makeFunc [.pointer (some ⟨g153, 0, none⟩)] rfl) rfl ?_
 refine O.l (Lo.ca C76 (nb29 g153) [] rfl rfl .nil) rfl ?_
 rintro _ _ ⟨_, ⟨rfl, rfl⟩, rfl⟩
 refine O.oo 2 rfl ?_
 refine O.l0 (Lo.st 0 Z36 rfl rfl rfl rfl rfl rfl rfl) ?_
 rintro _ _ rfl
 refine O.oc 2 rfl ?_
 exact J.rn [_, _] [] rfl ⟨⟨_, _, 0, 0, _, rfl, Cel.var 0 rfl, rfl, Cut.agg _ A36 Z36 rfl rfl⟩, rfl, trivial⟩ rfl ⟨rfl, rfl⟩

set_option maxRecDepth 100000 in
theorem nb31 (g1 : Nat) (g156 : Nat) : Tri Tryz.prog 76 #[.pointer (some ⟨g1, 0, none⟩), .func (.func 107) #[] #[.pointer (some ⟨g156, 0, none⟩)]] [] [var g1 (Value.pointer none :: .int .i64 0 :: .int .i64 0 :: .int .i64 0 :: .int .u64 0 :: Value.slice none 0 0 :: (rp 14 (.int .i64 0) [Value.slice none 0 0, .int .i64 0, .int .i64 0, .int .i64 0, .int .i64 0, Value.pointer none, Value.pointer none, Value.pointer none, Value.map none, Value.pointer none, Value.pointer none])) 90] (fun v L' => v = .tuple #[.agg #[Value.slice none 0 0, Value.slice none 0 0], .int .i64 7] ∧ L' = [var g1 (Value.pointer none :: .int .i64 0 :: .int .i64 0 :: .int .i64 0 :: .int .u64 0 :: Value.slice none 0 0 :: (rp 14 (.int .i64 0) [Value.slice none 0 0, .int .i64 0, .int .i64 0, .int .i64 0, .int .i64 0, Value.pointer none, Value.pointer none, Value.pointer none, Value.map none, Value.pointer none, Value.pointer none])) 90]) := by
 refine Tri.en F76 rfl K76 rfl fun w0 => ?_
 refine J.co 2 rfl ?_
 refine O.l (Lo.al Y36 rfl) rfl ?_
 rintro _ _ ⟨g158, rfl, rfl⟩
 refine O.oo 6 rfl ?_
 refine O.l (Lo.ca C39 (nb4 g1) [1] rfl rfl .nil) rfl ?_
 rintro _ _ ⟨_, ⟨rfl, rfl⟩, rfl⟩
 refine O.oo 5 rfl ?_
 refine O.p (Pu.build [] [Value.slice none 0 0, Value.slice none 0 0] #[(0, 1), (1, 1)] U36 Y36 (places36 N36) rfl (by kernel_rfl)) rfl ?_
 refine O.l0 (Lo.st 1 Z36 rfl rfl rfl rfl rfl rfl rfl) ?_
 rintro _ _ rfl
 refine O.oc 2 rfl ?_
 exact J.rn [_, _] [0] rfl ⟨⟨_, _, 0, 0, _, rfl, Cel.var 1 rfl, rfl, Cut.agg _ A36 Z36 rfl rfl⟩, rfl, trivial⟩ rfl ⟨rfl, rfl⟩

set_option maxRecDepth 100000 in
theorem no_Restart (g1 : Nat) : Tri Tryz.prog 38 #[.pointer (some ⟨g1, 0, none⟩)] [] [var g1 (Value.pointer none :: .int .i64 0 :: .int .i64 0 :: .int .i64 0 :: .int .u64 0 :: Value.slice none 0 0 :: (rp 14 (.int .i64 0) [Value.slice none 0 0, .int .i64 0, .int .i64 0, .int .i64 0, .int .i64 0, Value.pointer none, Value.pointer none, Value.pointer none, Value.map none, Value.pointer none, Value.pointer none])) 90] (fun v L' => v = .tuple #[.agg #[Value.slice none 0 0, Value.slice none 0 0], .int .i64 7] ∧ L' = [var g1 (Value.pointer none :: .int .i64 0 :: .int .i64 0 :: .int .i64 0 :: .int .u64 0 :: Value.slice none 0 0 :: (rp 14 (.int .i64 0) [Value.slice none 0 0, .int .i64 0, .int .i64 0, .int .i64 0, .int .i64 0, Value.pointer none, Value.pointer none, Value.pointer none, Value.map none, Value.pointer none, Value.pointer none])) 90]) := by
 refine Tri.en F38 rfl K38 rfl fun w0 => ?_
 refine J.co 2 rfl ?_
 refine O.l (Lo.bx rfl rfl) rfl ?_
 rintro _ _ ⟨g156, rfl, rfl⟩
 refine O.l (Lo.al Y36 rfl) rfl ?_
 rintro _ _ ⟨g157, rfl, rfl⟩
 refine O.oo 4 rfl ?_
 refine O.q (Qt.lv 1 A29 rfl rfl rfl) rfl ?_
 refine O.p (Pu.makeFunc [.pointer (some ⟨g156, 0, none⟩)] rfl) rfl ?_
 refine O.l (Lo.ca C76 (nb31 g1 g156) [2] rfl rfl .nil) rfl ?_
 rintro _ _ ⟨_, ⟨rfl, rfl⟩, rfl⟩
 refine O.oo 2 rfl ?_
 refine O.l0 (Lo.st 1 Z36 rfl rfl rfl rfl rfl rfl rfl) ?_
 rintro _ _ rfl
 refine O.oc 2 rfl ?_
 exact J.rn [_, _] [0] rfl ⟨⟨_, _, 0, 0, _, rfl, Cel.var 1 rfl, rfl, Cut.agg _ A36 Z36 rfl rfl⟩, rfl, trivial⟩ rfl ⟨rfl, rfl⟩

set_option maxRecDepth 100000 in
theorem nn_Now : Tri Tryz.prog 28 #[Value.pointer none] [] [] (fun v L' => v = .int .i64 0 ∧ L' = []) := by
 refine Tri.en F28 rfl K28 rfl fun w0 => ?_
 refine J.co 8 rfl ?_
 refine O.l (Lo.ca C39 nb1 [] rfl rfl .nil) rfl ?_
 rintro _ _ ⟨_, ⟨rfl, rfl⟩, rfl⟩
 refine O.oc 7 rfl ?_
 exact J.r0 rfl rfl ⟨rfl, rfl⟩

set_option maxRecDepth 100000 in
theorem no_Now (g1 : Nat) : Tri Tryz.prog 28 #[.pointer (some ⟨g1, 0, none⟩)] [] [var g1 (Value.pointer none :: .int .i64 0 :: .int .i64 0 :: .int .i64 0 :: .int .u64 0 :: Value.slice none 0 0 :: (rp 14 (.int .i64 0) [Value.slice none 0 0, .int .i64 0, .int .i64 0, .int .i64 0, .int .i64 0, Value.pointer none, Value.pointer none, Value.pointer none, Value.map none, Value.pointer none, Value.pointer none])) 90] (fun v L' => v = .int .i64 0 ∧ L' = [var g1 (Value.pointer none :: .int .i64 0 :: .int .i64 0 :: .int .i64 0 :: .int .u64 0 :: Value.slice none 0 0 :: (rp 14 (.int .i64 0) [Value.slice none 0 0, .int .i64 0, .int .i64 0, .int .i64 0, .int .i64 0, Value.pointer none, Value.pointer none, Value.pointer none, Value.map none, Value.pointer none, Value.pointer none])) 90]) := by
 refine Tri.en F28 rfl K28 rfl fun w0 => ?_
 refine J.co 8 rfl ?_
 refine O.l (Lo.ca C39 (nb4 g1) [0] rfl rfl .nil) rfl ?_
 rintro _ _ ⟨_, ⟨rfl, rfl⟩, rfl⟩
 refine O.oc 7 rfl ?_
 exact J.r1 [0] rfl rfl rfl ⟨rfl, rfl⟩

set_option maxRecDepth 100000 in
theorem nn_Version : Tri Tryz.prog 29 #[Value.pointer none] [] [] (fun v L' => v = .int .i64 0 ∧ L' = []) := by
 refine Tri.en F29 rfl K29 rfl fun w0 => ?_
 refine J.co 8 rfl ?_
 refine O.l (Lo.ca C39 nb1 [] rfl rfl .nil) rfl ?_
 rintro _ _ ⟨_, ⟨rfl, rfl⟩, rfl⟩
 refine O.oc 7 rfl ?_
 exact J.r0 rfl rfl ⟨rfl, rfl⟩

set_option maxRecDepth 100000 in
theorem nb37 : Tri Tryz.prog 42 #[Value.pointer none] [] [] (fun v L' => v = Value.pointer none ∧ L' = []) := by
 refine Tri.en F42 rfl K42 rfl fun w0 => ?_
 refine J.co 8 rfl ?_
 refine O.p (Pu.nilEq N29 rfl) rfl ?_
 refine O.oc 6 rfl ?_
 exact J.r0 rfl rfl ⟨rfl, rfl⟩

set_option maxRecDepth 100000 in
theorem nb38 : Tri Tryz.prog 44 #[Value.pointer none] [] [] (fun v L' => v = .int .i64 0 ∧ L' = []) := by
 refine Tri.en F44 rfl K44 rfl fun w0 => ?_
 refine J.co 8 rfl ?_
 refine O.p (Pu.nilEq N82 rfl) rfl ?_
 refine O.oc 6 rfl ?_
 exact J.r0 rfl rfl ⟨rfl, rfl⟩

set_option maxRecDepth 100000 in
theorem nn_Threshold : Tri Tryz.prog 18 #[Value.pointer none] [] [] (fun v L' => v = .int .i64 0 ∧ L' = []) := by
 refine Tri.en F18 rfl K18 rfl fun w0 => ?_
 refine J.co 7 rfl ?_
 refine O.l (Lo.ca C42 nb37 [] rfl rfl .nil) rfl ?_
 rintro _ _ ⟨_, ⟨rfl, rfl⟩, rfl⟩
 refine O.l (Lo.ca C44 nb38 [] rfl rfl .nil) rfl ?_
 rintro _ _ ⟨_, ⟨rfl, rfl⟩, rfl⟩
 refine O.oc 2 rfl ?_
 exact J.r0 rfl rfl ⟨rfl, rfl⟩

set_option maxRecDepth 100000 in
theorem nb40 (g1 : Nat) : Tri Tryz.prog 42 #[.pointer (some ⟨g1, 0, none⟩)] [] [var g1 (Value.pointer none :: .int .i64 0 :: .int .i64 0 :: .int .i64 0 :: .int .u64 0 :: Value.slice none 0 0 :: (rp 14 (.int .i64 0) [Value.slice none 0 0, .int .i64 0, .int .i64 0, .int .i64 0, .int .i64 0, Value.pointer none, Value.pointer none, Value.pointer none, Value.map none, Value.pointer none, Value.pointer none])) 90] (fun v L' => v = Value.pointer none ∧ L' = [var g1 (Value.pointer none :: .int .i64 0 :: .int .i64 0 :: .int .i64 0 :: .int .u64 0 :: Value.slice none 0 0 :: (rp 14 (.int .i64 0) [Value.slice none 0 0, .int .i64 0, .int .i64 0, .int .i64 0, .int .i64 0, Value.pointer none, Value.pointer none, Value.pointer none, Value.map none, Value.pointer none, Value.pointer none])) 90]) := by
 refine Tri.en F42 rfl K42 rfl fun w0 => ?_
 refine J.co 8 rfl ?_
 refine O.p (Pu.someEq N29 rfl) rfl ?_
 refine O.oo 8 rfl ?_
 refine O.q (Qt.lv 0 A82 rfl rfl rfl) rfl ?_
 refine O.oc 2 rfl ?_
 exact J.r1 [0] rfl rfl rfl ⟨rfl, rfl⟩

set_option maxRecDepth 100000 in
theorem no_Threshold (g1 : Nat) : Tri Tryz.prog 18 #[.pointer (some ⟨g1, 0, none⟩)] [] [var g1 (Value.pointer none :: .int .i64 0 :: .int .i64 0 :: .int .i64 0 :: .int .u64 0 :: Value.slice none 0 0 :: (rp 14 (.int .i64 0) [Value.slice none 0 0, .int .i64 0, .int .i64 0, .int .i64 0, .int .i64 0, Value.pointer none, Value.pointer none, Value.pointer none, Value.map none, Value.pointer none, Value.pointer none])) 90] (fun v L' => v = .int .i64 0 ∧ L' = [var g1 (Value.pointer none :: .int .i64 0 :: .int .i64 0 :: .int .i64 0 :: .int .u64 0 :: Value.slice none 0 0 :: (rp 14 (.int .i64 0) [Value.slice none 0 0, .int .i64 0, .int .i64 0, .int .i64 0, .int .i64 0, Value.pointer none, Value.pointer none, Value.pointer none, Value.map none, Value.pointer none, Value.pointer none])) 90]) := by
 refine Tri.en F18 rfl K18 rfl fun w0 => ?_
 refine J.co 7 rfl ?_
 refine O.l (Lo.ca C42 (nb40 g1) [0] rfl rfl .nil) rfl ?_
 rintro _ _ ⟨_, ⟨rfl, rfl⟩, rfl⟩
 refine O.l (Lo.ca C44 nb38 [] rfl rfl .nil) rfl ?_
 rintro _ _ ⟨_, ⟨rfl, rfl⟩, rfl⟩
 refine O.oc 2 rfl ?_
 exact J.r1 [0] rfl rfl rfl ⟨rfl, rfl⟩

set_option maxRecDepth 100000 in
theorem nb42 : Tri Tryz.prog 45 #[Value.pointer none] [] [] (fun v L' => v = .int .i64 0 ∧ L' = []) := by
 refine Tri.en F45 rfl K45 rfl fun w0 => ?_
 refine J.co 8 rfl ?_
 refine O.p (Pu.nilEq N82 rfl) rfl ?_
 refine O.oc 6 rfl ?_
 exact J.r0 rfl rfl ⟨rfl, rfl⟩

set_option maxRecDepth 100000 in
theorem nn_Tier : Tri Tryz.prog 19 #[Value.pointer none] [] [] (fun v L' => v = .int .i64 0 ∧ L' = []) := by
 refine Tri.en F19 rfl K19 rfl fun w0 => ?_
 refine J.co 7 rfl ?_
 refine O.l (Lo.ca C42 nb37 [] rfl rfl .nil) rfl ?_
 rintro _ _ ⟨_, ⟨rfl, rfl⟩, rfl⟩
 refine O.l (Lo.ca C45 nb42 [] rfl rfl .nil) rfl ?_
 rintro _ _ ⟨_, ⟨rfl, rfl⟩, rfl⟩
 refine O.oc 2 rfl ?_
 exact J.r0 rfl rfl ⟨rfl, rfl⟩

set_option maxRecDepth 100000 in
theorem no_Tier (g1 : Nat) : Tri Tryz.prog 19 #[.pointer (some ⟨g1, 0, none⟩)] [] [var g1 (Value.pointer none :: .int .i64 0 :: .int .i64 0 :: .int .i64 0 :: .int .u64 0 :: Value.slice none 0 0 :: (rp 14 (.int .i64 0) [Value.slice none 0 0, .int .i64 0, .int .i64 0, .int .i64 0, .int .i64 0, Value.pointer none, Value.pointer none, Value.pointer none, Value.map none, Value.pointer none, Value.pointer none])) 90] (fun v L' => v = .int .i64 0 ∧ L' = [var g1 (Value.pointer none :: .int .i64 0 :: .int .i64 0 :: .int .i64 0 :: .int .u64 0 :: Value.slice none 0 0 :: (rp 14 (.int .i64 0) [Value.slice none 0 0, .int .i64 0, .int .i64 0, .int .i64 0, .int .i64 0, Value.pointer none, Value.pointer none, Value.pointer none, Value.map none, Value.pointer none, Value.pointer none])) 90]) := by
 refine Tri.en F19 rfl K19 rfl fun w0 => ?_
 refine J.co 7 rfl ?_
 refine O.l (Lo.ca C42 (nb40 g1) [0] rfl rfl .nil) rfl ?_
 rintro _ _ ⟨_, ⟨rfl, rfl⟩, rfl⟩
 refine O.l (Lo.ca C45 nb42 [] rfl rfl .nil) rfl ?_
 rintro _ _ ⟨_, ⟨rfl, rfl⟩, rfl⟩
 refine O.oc 2 rfl ?_
 exact J.r1 [0] rfl rfl rfl ⟨rfl, rfl⟩

set_option maxRecDepth 100000 in
theorem nb45 : Tri Tryz.prog 43 #[Value.pointer none] [] [] (fun v L' => v = .int .i64 0 ∧ L' = []) := by
 refine Tri.en F43 rfl K43 rfl fun w0 => ?_
 refine J.co 8 rfl ?_
 refine O.p (Pu.nilEq N82 rfl) rfl ?_
 refine O.oc 6 rfl ?_
 exact J.r0 rfl rfl ⟨rfl, rfl⟩

set_option maxRecDepth 100000 in
theorem nn_Epoch : Tri Tryz.prog 17 #[Value.pointer none] [] [] (fun v L' => v = .int .i64 0 ∧ L' = []) := by
 refine Tri.en F17 rfl K17 rfl fun w0 => ?_
 refine J.co 7 rfl ?_
 refine O.l (Lo.ca C42 nb37 [] rfl rfl .nil) rfl ?_
 rintro _ _ ⟨_, ⟨rfl, rfl⟩, rfl⟩
 refine O.l (Lo.ca C43 nb45 [] rfl rfl .nil) rfl ?_
 rintro _ _ ⟨_, ⟨rfl, rfl⟩, rfl⟩
 refine O.oc 2 rfl ?_
 exact J.r0 rfl rfl ⟨rfl, rfl⟩

set_option maxRecDepth 100000 in
theorem no_Epoch (g1 : Nat) : Tri Tryz.prog 17 #[.pointer (some ⟨g1, 0, none⟩)] [] [var g1 (Value.pointer none :: .int .i64 0 :: .int .i64 0 :: .int .i64 0 :: .int .u64 0 :: Value.slice none 0 0 :: (rp 14 (.int .i64 0) [Value.slice none 0 0, .int .i64 0, .int .i64 0, .int .i64 0, .int .i64 0, Value.pointer none, Value.pointer none, Value.pointer none, Value.map none, Value.pointer none, Value.pointer none])) 90] (fun v L' => v = .int .i64 0 ∧ L' = [var g1 (Value.pointer none :: .int .i64 0 :: .int .i64 0 :: .int .i64 0 :: .int .u64 0 :: Value.slice none 0 0 :: (rp 14 (.int .i64 0) [Value.slice none 0 0, .int .i64 0, .int .i64 0, .int .i64 0, .int .i64 0, Value.pointer none, Value.pointer none, Value.pointer none, Value.map none, Value.pointer none, Value.pointer none])) 90]) := by
 refine Tri.en F17 rfl K17 rfl fun w0 => ?_
 refine J.co 7 rfl ?_
 refine O.l (Lo.ca C42 (nb40 g1) [0] rfl rfl .nil) rfl ?_
 rintro _ _ ⟨_, ⟨rfl, rfl⟩, rfl⟩
 refine O.l (Lo.ca C43 nb45 [] rfl rfl .nil) rfl ?_
 rintro _ _ ⟨_, ⟨rfl, rfl⟩, rfl⟩
 refine O.oc 2 rfl ?_
 exact J.r1 [0] rfl rfl rfl ⟨rfl, rfl⟩

set_option maxRecDepth 100000 in
theorem nb48 : Tri Tryz.prog 173 #[Value.pointer none] [] [] (fun v L' => v = .bool false ∧ L' = []) := by
 refine Tri.en F173 rfl K173 rfl fun w0 => ?_
 refine J.co 7 rfl ?_
 refine O.p (Pu.ptrNeNil N82 rfl) rfl ?_
 refine O.oc 9 rfl ?_
 exact J.r0 rfl rfl ⟨rfl, rfl⟩

set_option maxRecDepth 100000 in
theorem nb49 : Tri Tryz.prog 74 #[Value.pointer none] [] [] (fun v L' => v = .int .i64 0 ∧ L' = []) := by
 refine Tri.en F74 rfl K74 rfl fun w0 => ?_
 refine J.co 8 rfl ?_
 refine O.l (Lo.ca C173 nb48 [] rfl rfl .nil) rfl ?_
 rintro _ _ ⟨_, ⟨rfl, rfl⟩, rfl⟩
 refine O.oc 7 rfl ?_
 exact J.r0 rfl rfl ⟨rfl, rfl⟩

set_option maxRecDepth 100000 in
theorem nn_Calm : Tri Tryz.prog 30 #[Value.pointer none] [] [] (fun v L' => v = .int .i64 0 ∧ L' = []) := by
 refine Tri.en F30 rfl K30 rfl fun w0 => ?_
 refine J.co 7 rfl ?_
 refine O.l (Lo.ca C42 nb37 [] rfl rfl .nil) rfl ?_
 rintro _ _ ⟨_, ⟨rfl, rfl⟩, rfl⟩
 refine O.l (Lo.ca C74 nb49 [] rfl rfl .nil) rfl ?_
 rintro _ _ ⟨_, ⟨rfl, rfl⟩, rfl⟩
 refine O.oc 2 rfl ?_
 exact J.r0 rfl rfl ⟨rfl, rfl⟩

set_option maxRecDepth 100000 in
theorem no_Calm (g1 : Nat) : Tri Tryz.prog 30 #[.pointer (some ⟨g1, 0, none⟩)] [] [var g1 (Value.pointer none :: .int .i64 0 :: .int .i64 0 :: .int .i64 0 :: .int .u64 0 :: Value.slice none 0 0 :: (rp 14 (.int .i64 0) [Value.slice none 0 0, .int .i64 0, .int .i64 0, .int .i64 0, .int .i64 0, Value.pointer none, Value.pointer none, Value.pointer none, Value.map none, Value.pointer none, Value.pointer none])) 90] (fun v L' => v = .int .i64 0 ∧ L' = [var g1 (Value.pointer none :: .int .i64 0 :: .int .i64 0 :: .int .i64 0 :: .int .u64 0 :: Value.slice none 0 0 :: (rp 14 (.int .i64 0) [Value.slice none 0 0, .int .i64 0, .int .i64 0, .int .i64 0, .int .i64 0, Value.pointer none, Value.pointer none, Value.pointer none, Value.map none, Value.pointer none, Value.pointer none])) 90]) := by
 refine Tri.en F30 rfl K30 rfl fun w0 => ?_
 refine J.co 7 rfl ?_
 refine O.l (Lo.ca C42 (nb40 g1) [0] rfl rfl .nil) rfl ?_
 rintro _ _ ⟨_, ⟨rfl, rfl⟩, rfl⟩
 refine O.l (Lo.ca C74 nb49 [] rfl rfl .nil) rfl ?_
 rintro _ _ ⟨_, ⟨rfl, rfl⟩, rfl⟩
 refine O.oc 2 rfl ?_
 exact J.r1 [0] rfl rfl rfl ⟨rfl, rfl⟩

set_option maxRecDepth 100000 in
theorem nn_Queue : Tri Tryz.prog 13 #[Value.pointer none] [] [] (fun v L' => v = Value.slice none 0 0 ∧ L' = []) := by
 refine Tri.en F13 rfl K13 rfl fun w0 => ?_
 refine J.co 8 rfl ?_
 refine O.l (Lo.ca C39 nb1 [] rfl rfl .nil) rfl ?_
 rintro _ _ ⟨_, ⟨rfl, rfl⟩, rfl⟩
 refine O.oc 7 rfl ?_
 exact J.r0 rfl rfl ⟨rfl, rfl⟩

set_option maxRecDepth 100000 in
theorem no_Queue (g1 : Nat) : Tri Tryz.prog 13 #[.pointer (some ⟨g1, 0, none⟩)] [] [var g1 (Value.pointer none :: .int .i64 0 :: .int .i64 0 :: .int .i64 0 :: .int .u64 0 :: Value.slice none 0 0 :: (rp 14 (.int .i64 0) [Value.slice none 0 0, .int .i64 0, .int .i64 0, .int .i64 0, .int .i64 0, Value.pointer none, Value.pointer none, Value.pointer none, Value.map none, Value.pointer none, Value.pointer none])) 90] (fun v L' => v = Value.slice none 0 0 ∧ L' = [var g1 (Value.pointer none :: .int .i64 0 :: .int .i64 0 :: .int .i64 0 :: .int .u64 0 :: Value.slice none 0 0 :: (rp 14 (.int .i64 0) [Value.slice none 0 0, .int .i64 0, .int .i64 0, .int .i64 0, .int .i64 0, Value.pointer none, Value.pointer none, Value.pointer none, Value.map none, Value.pointer none, Value.pointer none])) 90]) := by
 refine Tri.en F13 rfl K13 rfl fun w0 => ?_
 refine J.co 8 rfl ?_
 refine O.l (Lo.ca C39 (nb4 g1) [0] rfl rfl .nil) rfl ?_
 rintro _ _ ⟨_, ⟨rfl, rfl⟩, rfl⟩
 refine O.oc 7 rfl ?_
 exact J.r1 [0] rfl rfl rfl ⟨rfl, rfl⟩

set_option maxRecDepth 100000 in
theorem nn_Jobs : Tri Tryz.prog 14 #[Value.pointer none] [] [] (fun v L' => v = Value.slice none 0 0 ∧ L' = []) := by
 refine Tri.en F14 rfl K14 rfl fun w0 => ?_
 refine J.co 8 rfl ?_
 refine O.l (Lo.ca C39 nb1 [] rfl rfl .nil) rfl ?_
 rintro _ _ ⟨_, ⟨rfl, rfl⟩, rfl⟩
 refine O.oc 7 rfl ?_
 exact J.r0 rfl rfl ⟨rfl, rfl⟩

set_option maxRecDepth 100000 in
theorem no_Jobs (g1 : Nat) : Tri Tryz.prog 14 #[.pointer (some ⟨g1, 0, none⟩)] [] [var g1 (Value.pointer none :: .int .i64 0 :: .int .i64 0 :: .int .i64 0 :: .int .u64 0 :: Value.slice none 0 0 :: (rp 14 (.int .i64 0) [Value.slice none 0 0, .int .i64 0, .int .i64 0, .int .i64 0, .int .i64 0, Value.pointer none, Value.pointer none, Value.pointer none, Value.map none, Value.pointer none, Value.pointer none])) 90] (fun v L' => v = Value.slice none 0 0 ∧ L' = [var g1 (Value.pointer none :: .int .i64 0 :: .int .i64 0 :: .int .i64 0 :: .int .u64 0 :: Value.slice none 0 0 :: (rp 14 (.int .i64 0) [Value.slice none 0 0, .int .i64 0, .int .i64 0, .int .i64 0, .int .i64 0, Value.pointer none, Value.pointer none, Value.pointer none, Value.map none, Value.pointer none, Value.pointer none])) 90]) := by
 refine Tri.en F14 rfl K14 rfl fun w0 => ?_
 refine J.co 8 rfl ?_
 refine O.l (Lo.ca C39 (nb4 g1) [0] rfl rfl .nil) rfl ?_
 rintro _ _ ⟨_, ⟨rfl, rfl⟩, rfl⟩
 refine O.oc 7 rfl ?_
 exact J.r1 [0] rfl rfl rfl ⟨rfl, rfl⟩

set_option maxRecDepth 100000 in
theorem nn_Known : Tri Tryz.prog 21 #[Value.pointer none] [] [] (fun v L' => v = Value.slice none 0 0 ∧ L' = []) := by
 refine Tri.en F21 rfl K21 rfl fun w0 => ?_
 refine J.co 8 rfl ?_
 refine O.l (Lo.ca C39 nb1 [] rfl rfl .nil) rfl ?_
 rintro _ _ ⟨_, ⟨rfl, rfl⟩, rfl⟩
 refine O.oc 7 rfl ?_
 exact J.r0 rfl rfl ⟨rfl, rfl⟩

set_option maxRecDepth 100000 in
theorem no_Known (g1 : Nat) : Tri Tryz.prog 21 #[.pointer (some ⟨g1, 0, none⟩)] [] [var g1 (Value.pointer none :: .int .i64 0 :: .int .i64 0 :: .int .i64 0 :: .int .u64 0 :: Value.slice none 0 0 :: (rp 14 (.int .i64 0) [Value.slice none 0 0, .int .i64 0, .int .i64 0, .int .i64 0, .int .i64 0, Value.pointer none, Value.pointer none, Value.pointer none, Value.map none, Value.pointer none, Value.pointer none])) 90] (fun v L' => v = Value.slice none 0 0 ∧ L' = [var g1 (Value.pointer none :: .int .i64 0 :: .int .i64 0 :: .int .i64 0 :: .int .u64 0 :: Value.slice none 0 0 :: (rp 14 (.int .i64 0) [Value.slice none 0 0, .int .i64 0, .int .i64 0, .int .i64 0, .int .i64 0, Value.pointer none, Value.pointer none, Value.pointer none, Value.map none, Value.pointer none, Value.pointer none])) 90]) := by
 refine Tri.en F21 rfl K21 rfl fun w0 => ?_
 refine J.co 8 rfl ?_
 refine O.l (Lo.ca C39 (nb4 g1) [0] rfl rfl .nil) rfl ?_
 rintro _ _ ⟨_, ⟨rfl, rfl⟩, rfl⟩
 refine O.oc 7 rfl ?_
 exact J.r1 [0] rfl rfl rfl ⟨rfl, rfl⟩

set_option maxRecDepth 100000 in
theorem nn_Seen : Tri Tryz.prog 22 #[Value.pointer none] [] [] (fun v L' => v = Value.slice none 0 0 ∧ L' = []) := by
 refine Tri.en F22 rfl K22 rfl fun w0 => ?_
 refine J.co 8 rfl ?_
 refine O.l (Lo.ca C39 nb1 [] rfl rfl .nil) rfl ?_
 rintro _ _ ⟨_, ⟨rfl, rfl⟩, rfl⟩
 refine O.oc 7 rfl ?_
 exact J.r0 rfl rfl ⟨rfl, rfl⟩

set_option maxRecDepth 100000 in
theorem no_Seen (g1 : Nat) : Tri Tryz.prog 22 #[.pointer (some ⟨g1, 0, none⟩)] [] [var g1 (Value.pointer none :: .int .i64 0 :: .int .i64 0 :: .int .i64 0 :: .int .u64 0 :: Value.slice none 0 0 :: (rp 14 (.int .i64 0) [Value.slice none 0 0, .int .i64 0, .int .i64 0, .int .i64 0, .int .i64 0, Value.pointer none, Value.pointer none, Value.pointer none, Value.map none, Value.pointer none, Value.pointer none])) 90] (fun v L' => v = Value.slice none 0 0 ∧ L' = [var g1 (Value.pointer none :: .int .i64 0 :: .int .i64 0 :: .int .i64 0 :: .int .u64 0 :: Value.slice none 0 0 :: (rp 14 (.int .i64 0) [Value.slice none 0 0, .int .i64 0, .int .i64 0, .int .i64 0, .int .i64 0, Value.pointer none, Value.pointer none, Value.pointer none, Value.map none, Value.pointer none, Value.pointer none])) 90]) := by
 refine Tri.en F22 rfl K22 rfl fun w0 => ?_
 refine J.co 8 rfl ?_
 refine O.l (Lo.ca C39 (nb4 g1) [0] rfl rfl .nil) rfl ?_
 rintro _ _ ⟨_, ⟨rfl, rfl⟩, rfl⟩
 refine O.oc 7 rfl ?_
 exact J.r1 [0] rfl rfl rfl ⟨rfl, rfl⟩

set_option maxRecDepth 100000 in
theorem nb60 : Tri Tryz.prog 73 #[Value.slice none 0 0, Value.slice none 0 0] [] [] (fun v L' => v = .bool true ∧ L' = []) := by
 refine Tri.en F73 rfl K73 rfl fun w0 => ?_
 refine J.co 8 rfl ?_
 refine O.p (Pu.len (A := none) (n := 0) (cap := 0) U33 rfl) rfl ?_
 refine O.oo 1 rfl ?_
 refine O.p (Pu.len (A := none) (n := 0) (cap := 0) U33 rfl) rfl ?_
 refine O.oc 10 rfl ?_
 refine J.un ?_
 refine J.co 5 rfl ?_
 refine O.p (Pu.len (A := none) (n := 0) (cap := 0) U33 rfl) rfl ?_
 refine O.oc 14 rfl ?_
 exact J.r0 rfl rfl ⟨rfl, rfl⟩

set_option maxRecDepth 100000 in
theorem r35_same00 : Tri Tryz.prog 27 #[.agg #[Value.slice none 0 0, Value.slice none 0 0], .agg #[Value.slice none 0 0, Value.slice none 0 0]] [] [] (fun v L' => v = .bool true ∧ L' = []) := by
 refine Tri.en F27 rfl K27 rfl fun w0 => ?_
 refine J.co 2 rfl ?_
 refine O.l (Lo.bx rfl rfl) rfl ?_
 rintro _ _ ⟨g159, rfl, rfl⟩
 refine O.l (Lo.bx rfl rfl) rfl ?_
 rintro _ _ ⟨g160, rfl, rfl⟩
 refine O.oo 6 rfl ?_
 refine O.q (Qt.lv 1 A34 rfl rfl rfl) rfl ?_
 refine O.p (Pu.len (A := none) (n := 0) (cap := 0) U34 rfl) rfl ?_
 refine O.oo 1 rfl ?_
 refine O.q (Qt.lv 0 A34 rfl rfl rfl) rfl ?_
 refine O.p (Pu.len (A := none) (n := 0) (cap := 0) U34 rfl) rfl ?_
 refine O.oc 10 rfl ?_
 refine J.un ?_
 refine J.co 5 rfl ?_
 refine O.q (Qt.lv 1 A34 rfl rfl rfl) rfl ?_
 refine O.p (Pu.len (A := none) (n := 0) (cap := 0) U34 rfl) rfl ?_
 refine O.oo 14 rfl ?_
 refine O.q (Qt.lv 1 A33 rfl rfl rfl) rfl ?_
 refine O.oo 1 rfl ?_
 refine O.q (Qt.lv 0 A33 rfl rfl rfl) rfl ?_
 refine O.l (Lo.ca C73 nb60 [] rfl rfl .nil) rfl ?_
 rintro _ _ ⟨_, ⟨rfl, rfl⟩, rfl⟩
 refine O.oc 2 rfl ?_
 exact J.r0 rfl rfl ⟨rfl, rfl⟩

end Go.Proofs.YtohjlkjhpibkmaaGreatDoor
