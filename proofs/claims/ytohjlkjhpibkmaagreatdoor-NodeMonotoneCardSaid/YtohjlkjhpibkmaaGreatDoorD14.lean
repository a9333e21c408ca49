/-
  Walks, printed by a program of mine.
-/
import Derived.KernelRfl
import Derived.Test.YtohjlkjhpibkmaaGreatDoorD13
import Derived.Test.YtohjlkjhpibkmaaGreatDoorD05
import Derived.Test.YtohjlkjhpibkmaaGreatDoorD04
set_option linter.unusedSimpArgs false
set_option linter.unusedVariables false
namespace Go.Proofs.YtohjlkjhpibkmaaGreatDoor
open Go Go.LK Go.Proofs.Tryz
set_option maxRecDepth 100000
set_option maxHeartbeats 4000000
theorem bd_div (a b:Int) (h1:0≤a∧a≤2147483647) (h2:0≤b∧b≤2147483647):Tri prog 370 #[.int .i64 a,.int .i64 b] [] [] (fun v L'=>v=.int .i64 (if b=0 then 0 else a / b)∧L'=[]):=by
 refine Tri.en func370 H ntmps370 H fun w0=>J.cc 10 H ?_
 refine J.cd H (fun p1=>?_) (fun p1=>?_)
 ·
  refine J.cc 4 H ?_
  exact J.r0 H H ⟨by simp [vOf, *],rfl⟩
 refine J.co 5 H<|O.p (Pu.quo' H H (by omega) (by omega) (by omega)) H<|O.oc 2 H ?_
 exact J.r0 H H ⟨by simp [vOf, *],rfl⟩
theorem bd_countsM (a b:Int):Tri prog 226 #[.int .i64 a,.int .i64 b,.func (.func 370) #[] #[]] [] [] (fun v L'=>v=.int .i64 (Nd.mean a b)∧L'=[]):=by
 refine Tri.en func226 H ntmps226 H fun w0=>J.co 8 H<|O.l (Lo.ca C199 (bd_Keep a 2147483647) [] H H .nil) H ?_
 rintro _ _ ⟨_,⟨rfl,rfl⟩,rfl⟩
 refine O.oo 1 H<|O.l (Lo.ca C199 (bd_Keep b 2147483647) [] H H .nil) H ?_
 rintro _ _ ⟨_,⟨rfl,rfl⟩,rfl⟩
 refine O.l (Lo.cv call370 H H (bd_div (Sh.keep a 2147483647) (Sh.keep b 2147483647) (Sh.keep_bnd _ (by decide)) (Sh.keep_bnd _ (by decide))) [] H .nil) H ?_
 rintro _ _ ⟨_,⟨rfl,rfl⟩,rfl⟩
 refine O.l (Lo.ca C199 (bd_Keep (if (Sh.keep b 2147483647)=0 then 0 else (Sh.keep a 2147483647) / (Sh.keep b 2147483647)) 2147483647) [] H H .nil) H ?_
 rintro _ _ ⟨_,⟨rfl,rfl⟩,rfl⟩
 refine O.oc 2 H ?_
 exact J.r0 H H ⟨H,H⟩
theorem bd_Mean (a b:Int):Tri prog 330 #[.int .i64 a,.int .i64 b] [] [] (fun v L'=>v=.int .i64 (Nd.mean a b)∧L'=[]):=by
 refine Tri.en func330 H ntmps330 H fun w0=>J.co 8 H<|O.l (Lo.ca call226 (bd_countsM a b) [] H H .nil) H ?_
 rintro _ _ ⟨_,⟨rfl,rfl⟩,rfl⟩
 refine O.oc 2 H ?_
 exact J.r0 H H ⟨H,H⟩
theorem ld_tell0 (l:Nat) (lm ls lw:Int):Tri prog 371 #[.pointer (some ⟨l,0,none⟩),.int .i64 0] [var l [.int .i64 lm,.int .i64 ls,.int .i64 lw] 311] [] (fun v L'=>v=.int .i64 lm∧L'=[]):=by
 refine Tri.en func371 H ntmps371 H fun w0=>J.co 8 H<|O.p (Pu.someEq N170 H) H<|O.oo 9 H<|O.p (Pu.indexAddrK 0 U95 Z3 H H (by decide) (by decide) H) H<|O.q (Qt.lw 0 A3 H H H) H<|O.oc 2 H ?_
 exact J.r0 H H ⟨H,H⟩
theorem ld_tell1 (l:Nat) (lm ls lw:Int):Tri prog 371 #[.pointer (some ⟨l,0,none⟩),.int .i64 1] [var l [.int .i64 lm,.int .i64 ls,.int .i64 lw] 311] [] (fun v L'=>v=.int .i64 ls∧L'=[]):=by
 refine Tri.en func371 H ntmps371 H fun w0=>J.co 8 H<|O.p (Pu.someEq N170 H) H<|O.oo 9 H<|O.p (Pu.indexAddrK 1 U95 Z3 H H (by decide) (by decide) H) H<|O.q (Qt.lw 0 A3 H H H) H<|O.oc 2 H ?_
 exact J.r0 H H ⟨H,H⟩
theorem ld_Sum (l:Nat) (lm ls lw:Int):Tri prog 331 #[.pointer (some ⟨l,0,none⟩)] [var l [.int .i64 lm,.int .i64 ls,.int .i64 lw] 311] [] (fun v L'=>v=.int .i64 (ls)∧L'=[]):=by
 refine Tri.en func331 H ntmps331 H fun w0=>J.co 7 H<|O.l (Lo.ca call371 (ld_tell1 l lm ls lw) [] H H (.ro 0 H .nil)) H ?_
 rintro _ _ ⟨_,⟨rfl,rfl⟩,rfl⟩
 refine O.oc 2 H ?_
 exact J.r0 H H ⟨H,H⟩
theorem ld_Many (l:Nat) (lm ls lw:Int):Tri prog 332 #[.pointer (some ⟨l,0,none⟩)] [var l [.int .i64 lm,.int .i64 ls,.int .i64 lw] 311] [] (fun v L'=>v=.int .i64 (lm)∧L'=[]):=by
 refine Tri.en func332 H ntmps332 H fun w0=>J.co 7 H<|O.l (Lo.ca call371 (ld_tell0 l lm ls lw) [] H H (.ro 0 H .nil)) H ?_
 rintro _ _ ⟨_,⟨rfl,rfl⟩,rfl⟩
 refine O.oc 2 H ?_
 exact J.r0 H H ⟨H,H⟩
theorem ld_Mean (l:Nat) (lm ls lw:Int):Tri prog 283 #[.pointer (some ⟨l,0,none⟩)] [var l [.int .i64 lm,.int .i64 ls,.int .i64 lw] 311] [] (fun v L'=>v=.int .i64 (Nd.mean ls lm)∧L'=[]):=by
 refine Tri.en func283 H ntmps283 H fun w0=>J.co 7 H<|O.l (Lo.ca call331 (ld_Sum l lm ls lw) [] H H (.ro 0 H .nil)) H ?_
 rintro _ _ ⟨_,⟨rfl,rfl⟩,rfl⟩
 refine O.oo 1 H<|O.l (Lo.ca call332 (ld_Many l lm ls lw) [] H H (.ro 0 H .nil)) H ?_
 rintro _ _ ⟨_,⟨rfl,rfl⟩,rfl⟩
 refine O.l (Lo.ca call330 (bd_Mean ls lm) [] H H .nil) H ?_
 rintro _ _ ⟨_,⟨rfl,rfl⟩,rfl⟩
 refine O.oc 2 H ?_
 exact J.r0 H H ⟨H,H⟩
theorem ld_Verdict (l:Nat) (lm ls lw:Int) (low high:Int):Tri prog 210 #[.pointer (some ⟨l,0,none⟩),.int .i64 low,.int .i64 high] [var l [.int .i64 lm,.int .i64 ls,.int .i64 lw] 311] [] (fun v L'=>v=.int .i64 (Nd.verdict (Nd.mean ls lm) low high)∧L'=[]):=by
 refine Tri.en func210 H ntmps210 H fun w0=>J.co 8 H<|O.l (Lo.ca call283 (ld_Mean l lm ls lw) [] H H (.ro 0 H .nil)) H ?_
 rintro _ _ ⟨_,⟨rfl,rfl⟩,rfl⟩
 refine O.oc 10 H ?_
 refine J.cd H (fun p2=>?_) (fun p2=>?_)
 ·
  refine J.cc 4 H ?_
  exact J.r0 H H ⟨by simp [vOf,Nd.verdict, *],rfl⟩
 refine J.cc 7 H ?_
 refine J.cd H (fun p3=>?_) (fun p3=>?_)
 ·
  refine J.cc 4 H ?_
  exact J.r0 H H ⟨by simp [vOf,Nd.verdict, *],rfl⟩
 refine J.cc 6 H ?_
 exact J.r0 H H ⟨by simp [vOf,Nd.verdict, *],rfl⟩
theorem ld_Wait (l:Nat) (lm ls lw:Int) (n:Int):Tri prog 269 #[.pointer (some ⟨l,0,none⟩),.int .i64 n] [] [var l [.int .i64 lm,.int .i64 ls,.int .i64 lw] 311] (fun v L'=>v=.tuple #[]∧∃ a b c,L'=[var l [.int .i64 a,.int .i64 b,.int .i64 c] 311]):=by
 refine Tri.en func269 H ntmps269 H fun w0=>J.co 4 H<|O.p (Pu.someEq N170 H) H<|O.oc 4 H<|J.drawHead 10 Tryz.mixed (by kernel_rfl)<|Hd.p (Pu.move H) H<|Hd.p (Pu.move H) H<|Hd.p (Pu.nilCheck H) H<|Hd.p (Pu.fieldAddr (off':=0) U311 H Z95 H H H) H<|Hd.p (Pu.indexAddrK 0 U95 Z3 H H (by decide) (by decide) H) H<|Hd.q (Qt.lv 0 A3 H H H) H<|Hd.call (vs:=[.int .i64 lm,.int .i64 1]) (caps:=[]) (by exact C288) H H (bd_Add lm 1) (fun _ _ h=>h) RoOk.nil H<|Hd.p (Pu.nilCheck H) H<|Hd.p (Pu.fieldAddr (off':=0) U311 H Z95 H H H) H<|Hd.p (Pu.indexAddrK 0 U95 Z3 H H (by decide) (by decide) H) H<|Hd.nil<|O.l0 (Lo.st 0 Z3 H H H H H H H) ?_
 rintro _ _ rfl
 refine O.oc 2 H<|J.drawHead 11 Tryz.mixed (by kernel_rfl)<|Hd.p (Pu.move H) H<|Hd.p (Pu.move H) H<|Hd.p (Pu.nilCheck H) H<|Hd.p (Pu.fieldAddr (off':=0) U311 H Z95 H H H) H<|Hd.p (Pu.indexAddrK 1 U95 Z3 H H (by decide) (by decide) H) H<|Hd.q (Qt.lv 0 A3 H H H) H<|Hd.p (Pu.move H) H<|Hd.call (vs:=[.int .i64 ls,.int .i64 n]) (caps:=[]) (by exact C288) H H (bd_Add ls n) (fun _ _ h=>h) RoOk.nil H<|Hd.p (Pu.nilCheck H) H<|Hd.p (Pu.fieldAddr (off':=0) U311 H Z95 H H H) H<|Hd.p (Pu.indexAddrK 1 U95 Z3 H H (by decide) (by decide) H) H<|Hd.nil<|O.l0 (Lo.st 0 Z3 H H H H H H H) ?_
 rintro _ _ rfl
 refine O.nil<|J.drawHead 12 Tryz.mixed (by kernel_rfl)<|Hd.p (Pu.move H) H<|Hd.p (Pu.move H) H<|Hd.p (Pu.nilCheck H) H<|Hd.p (Pu.fieldAddr (off':=0) U311 H Z95 H H H) H<|Hd.p (Pu.indexAddrK 2 U95 Z3 H H (by decide) (by decide) H) H<|Hd.q (Qt.lv 0 A3 H H H) H<|Hd.p (Pu.move H) H<|Hd.call (vs:=[.int .i64 n,.int .i64 2147483647]) (caps:=[]) (by exact C199) H H (bd_Keep n 2147483647) (fun _ _ h=>h) RoOk.nil H<|Hd.p (Pu.max H H) H<|Hd.p (Pu.nilCheck H) H<|Hd.p (Pu.fieldAddr (off':=0) U311 H Z95 H H H) H<|Hd.p (Pu.indexAddrK 2 U95 Z3 H H (by decide) (by decide) H) H<|Hd.nil<|O.l0 (Lo.st 0 Z3 H H H H H H H) ?_
 rintro _ _ rfl
 refine O.nil ?_
 exact J.dn [] [0] H trivial H ⟨H,_,_,_,H⟩
theorem ld_Clear (l:Nat) (lm ls lw:Int):Tri prog 293 #[.pointer (some ⟨l,0,none⟩)] [] [var l [.int .i64 lm,.int .i64 ls,.int .i64 lw] 311] (fun v L'=>v=.tuple #[]∧L'=[var l [.int .i64 0,.int .i64 0,.int .i64 0] 311]):=by
 refine Tri.en func293 H ntmps293 H fun w0=>J.co 3 H<|O.p (Pu.ptrNe N170 H) H<|O.oo 4 H<|O.p (Pu.build [] [.int .i64 0,.int .i64 0,.int .i64 0] #[(0,3)] U311 zeroValue311 (places311 underlying311) H (by kernel_rfl)) H<|O.oo 1 H<|O.l0 (Lo.st 0 sizeOf311 H H H H H H H) ?_
 rintro _ _ rfl
 refine O.nil ?_
 exact J.dn [] [0] H trivial H ⟨H,H⟩
theorem ld_New :Tri prog 132 #[] [] [] (fun v L'=>∃ l,v=.pointer (some ⟨l,0,none⟩)∧L'=[var l [.int .i64 0,.int .i64 0,.int .i64 0] 311]):=by
 refine Tri.en func132 H ntmps132 H fun w0=>J.co 6 H<|O.p (Pu.build [] [.int .i64 0,.int .i64 0,.int .i64 0] #[(0,3)] U311 zeroValue311 (places311 underlying311) H (by kernel_rfl)) H<|O.l (Lo.bx H H) H ?_
 rintro _ _ ⟨g1,rfl,rfl⟩
 refine O.oc 2 H ?_
 exact J.r1 [0] H H H ⟨g1,H,H⟩
theorem tu_wants (x:Int):Tri prog 286 #[.int .i64 x] [] [] (fun v L'=>v=.int .i64 (Nd.wants x)∧L'=[]):=by
 refine Tri.en func286 H ntmps286 H fun w0=>J.cc 15 H ?_
 refine J.cd H (fun p1=>?_) (fun p1=>?_)
 ·
  refine J.cc 4 H ?_
  exact J.r0 H H ⟨by simp [vOf,Nd.wants, *],rfl⟩
 refine J.cc 5 H ?_
 refine J.cd H (fun p2=>?_) (fun p2=>?_)
 ·
  refine J.cc 4 H ?_
  exact J.r0 H H ⟨by simp [vOf,Nd.wants, *],rfl⟩
 refine J.cc 6 H ?_
 exact J.r0 H H ⟨by simp [vOf,Nd.wants, *],rfl⟩
theorem tu_take (u:Nat) (way held:Int) (x:Int):Tri prog 287 #[.pointer (some ⟨u,0,none⟩),.int .i64 x] [] [var u [.int .i64 way,.int .i64 held] 309] (fun v L'=>v=.int .i64 x∧L'=[var u [.int .i64 x,.int .i64 1] 309]):=by
 refine Tri.en func287 H ntmps287 H fun w0=>J.co 8 H<|O.p (Pu.build [(0,.int .i64 x),(1,.int .i64 1)] [.int .i64 x,.int .i64 1] #[(0,1),(1,1)] U309 Y309 (places309 N309) H (by kernel_rfl)) H<|O.oo 1 H<|O.l0 (Lo.st 0 sizeOf309 H H H H H H H) ?_
 rintro _ _ rfl
 refine O.oc 6 H ?_
 exact J.r1 [0] H H H ⟨H,H⟩
theorem tu_Step (u:Nat) (way held:Int) (x dwell:Int) (hw0:-1≤way) (hw1:way≤1):Tri prog 212 #[.pointer (some ⟨u,0,none⟩),.int .i64 x,.int .i64 dwell] [] [var u [.int .i64 way,.int .i64 held] 309] (fun v L'=>v=.int .i64 (Nd.turnStep way held x dwell).1∧L'=[var u [.int .i64 ((Nd.turnStep way held x dwell).2.1),.int .i64 ((Nd.turnStep way held x dwell).2.2)] 309]):=by
 refine Tri.en func212 H ntmps212 H fun w0=>J.co 8 H<|O.p (Pu.someEq underlying167 H) H<|O.oo 6 H<|O.l (Lo.ca call286 (tu_wants x) [] H H .nil) H ?_
 rintro _ _ ⟨_,⟨rfl,rfl⟩,rfl⟩
 refine O.oo 7 H<|O.q (Qt.lva 0 isAgg309 sizeOf309 H H H) H<|O.p (Pu.build [] [.int .i64 0,.int .i64 0] #[(0,1),(1,1)] U309 Y309 (places309 N309) H (by kernel_rfl)) H<|O.p (Pu.eqlI [way,held] [0,0] N309 stoodInHeld309 eqGuardType309 (fint309 N309) H H H H) H<|O.nil ?_
 refine J.cd H (fun p2=>?_) (fun p2=>?_)
 ·
  refine J.cc 6 H ?_
  refine J.cd H (fun p3=>?_) (fun p3=>?_)
  ·
   refine J.cc 4 H ?_
   exact J.r1 [0] H H H (by have hq_:=(decide_eq_true p2);simp only [decide_eq_false_iff_not,decide_eq_true_eq,List.cons.injEq,and_true] at hq_;have hts:Nd.turnStep way held x dwell=(0,way,held):=(by unfold Nd.turnStep;(repeat' split)<;>first|rfl|(exfalso;omega)|(simp only [Prod.mk.injEq];omega));rw [hts];exact ⟨rfl,rfl⟩)
  refine J.co 5 H<|O.l (Lo.ca call287 (tu_take u way held (Nd.wants x)) [0] H H .nil) H ?_
  rintro _ _ ⟨_,⟨rfl,rfl⟩,rfl⟩
  refine O.oc 2 H ?_
  exact J.r1 [0] H H H (by have hq_:=(decide_eq_true p2);simp only [decide_eq_false_iff_not,decide_eq_true_eq,List.cons.injEq,and_true] at hq_;have hts:Nd.turnStep way held x dwell=(Nd.wants x,Nd.wants x,1):=(by unfold Nd.turnStep;(repeat' split)<;>first|rfl|(exfalso;omega)|(simp only [Prod.mk.injEq];omega));rw [hts];exact ⟨rfl,rfl⟩)
 refine J.co 8 H<|O.q (Qt.lv 0 A3 H H H) H<|O.p (Pu.to (Pu.neg H) (congrArg (Value.int .i64) (show IntKind.i64.wrap (0-way)=-way from (in_i64 (by omega)).trans (by omega)))) H<|O.oo 2 H ?_
 refine O.sd 30 H (fun p5=>?_) (fun p5=>?_)
 ·
  refine O.oo 3 H<|O.gz (Qt.lv 0 A3 H H H) H H<|O.oc 4 H ?_
  refine J.cd H (fun p6=>?_) (fun p6=>?_)
  ·
   refine J.co 4 H<|O.l (Lo.ca call287 (tu_take u way held (Nd.wants x)) [0] H H .nil) H ?_
   rintro _ _ ⟨_,⟨rfl,rfl⟩,rfl⟩
   refine O.oc 2 H ?_
   exact J.r1 [0] H H H (by have hq_:=(decide_eq_false p2);simp only [decide_eq_false_iff_not,decide_eq_true_eq,List.cons.injEq,and_true] at hq_;have hts:Nd.turnStep way held x dwell=(Nd.wants x,Nd.wants x,1):=(by unfold Nd.turnStep;(repeat' split)<;>first|rfl|(exfalso;omega)|(simp only [Prod.mk.injEq];omega));rw [hts];exact ⟨rfl,rfl⟩)
  refine J.co 21 H<|O.q (Qt.lv 0 A3 H H H) H<|O.oc 3 H ?_
  refine J.cd H (fun p8=>?_) (fun p8=>?_)
  ·
   refine J.co 12 H<|O.q (Qt.lv 0 A3 H H H) H<|O.l (Lo.ca C288 (bd_Add held 1) [] H H .nil) H ?_
   rintro _ _ ⟨_,⟨rfl,rfl⟩,rfl⟩
   refine O.oo 2 H<|O.l0 (Lo.st 0 Z3 H H H H H H H) ?_
   rintro _ _ rfl
   refine O.oc 7 H ?_
   exact J.r1 [0] H H H (by have hq_:=(decide_eq_false p2);simp only [decide_eq_false_iff_not,decide_eq_true_eq,List.cons.injEq,and_true] at hq_;have hts:Nd.turnStep way held x dwell=(Nd.wants x,way,Nd.addC held 1):=(by unfold Nd.turnStep;(repeat' split)<;>first|rfl|(exfalso;omega)|(simp only [Prod.mk.injEq];omega));rw [hts];exact ⟨rfl,rfl⟩)
  refine J.co 8 H<|O.q (Qt.lv 0 A3 H H H) H<|O.l (Lo.ca C288 (bd_Add held 1) [] H H .nil) H ?_
  rintro _ _ ⟨_,⟨rfl,rfl⟩,rfl⟩
  refine O.oo 2 H<|O.l0 (Lo.st 0 Z3 H H H H H H H) ?_
  rintro _ _ rfl
  refine O.oc 7 H ?_
  exact J.r1 [0] H H H (by have hq_:=(decide_eq_false p2);simp only [decide_eq_false_iff_not,decide_eq_true_eq,List.cons.injEq,and_true] at hq_;have hts:Nd.turnStep way held x dwell=(0,way,Nd.addC held 1):=(by unfold Nd.turnStep;(repeat' split)<;>first|rfl|(exfalso;omega)|(simp only [Prod.mk.injEq];omega));rw [hts];exact ⟨rfl,rfl⟩)
 refine O.oo 30 H<|O.q (Qt.lv 0 A3 H H H) H<|O.oc 3 H ?_
 refine J.cd H (fun p11=>?_) (fun p11=>?_)
 ·
  refine J.co 12 H<|O.q (Qt.lv 0 A3 H H H) H<|O.l (Lo.ca C288 (bd_Add held 1) [] H H .nil) H ?_
  rintro _ _ ⟨_,⟨rfl,rfl⟩,rfl⟩
  refine O.oo 2 H<|O.l0 (Lo.st 0 Z3 H H H H H H H) ?_
  rintro _ _ rfl
  refine O.oc 7 H ?_
  exact J.r1 [0] H H H (by have hq_:=(decide_eq_false p2);simp only [decide_eq_false_iff_not,decide_eq_true_eq,List.cons.injEq,and_true] at hq_;have hts:Nd.turnStep way held x dwell=(Nd.wants x,way,Nd.addC held 1):=(by unfold Nd.turnStep;(repeat' split)<;>first|rfl|(exfalso;omega)|(simp only [Prod.mk.injEq];omega));rw [hts];exact ⟨rfl,rfl⟩)
 refine J.co 8 H<|O.q (Qt.lv 0 A3 H H H) H<|O.l (Lo.ca C288 (bd_Add held 1) [] H H .nil) H ?_
 rintro _ _ ⟨_,⟨rfl,rfl⟩,rfl⟩
 refine O.oo 2 H<|O.l0 (Lo.st 0 Z3 H H H H H H H) ?_
 rintro _ _ rfl
 refine O.oc 7 H ?_
 exact J.r1 [0] H H H (by have hq_:=(decide_eq_false p2);simp only [decide_eq_false_iff_not,decide_eq_true_eq,List.cons.injEq,and_true] at hq_;have hts:Nd.turnStep way held x dwell=(0,way,Nd.addC held 1):=(by unfold Nd.turnStep;(repeat' split)<;>first|rfl|(exfalso;omega)|(simp only [Prod.mk.injEq];omega));rw [hts];exact ⟨rfl,rfl⟩)
theorem tu_Clear (u:Nat) (way held:Int):Tri prog 217 #[.pointer (some ⟨u,0,none⟩)] [] [var u [.int .i64 way,.int .i64 held] 309] (fun v L'=>v=.tuple #[]∧L'=[var u [.int .i64 0,.int .i64 0] 309]):=by
 refine Tri.en func217 H ntmps217 H fun w0=>J.co 3 H<|O.p (Pu.ptrNe underlying167 H) H<|O.oo 4 H<|O.p (Pu.build [] [.int .i64 0,.int .i64 0] #[(0,1),(1,1)] U309 Y309 (places309 N309) H (by kernel_rfl)) H<|O.oo 1 H<|O.l0 (Lo.st 0 sizeOf309 H H H H H H H) ?_
 rintro _ _ rfl
 refine O.nil ?_
 exact J.dn [] [0] H trivial H ⟨H,H⟩
theorem tu_New :Tri prog 131 #[] [] [] (fun v L'=>∃ u,v=.pointer (some ⟨u,0,none⟩)∧L'=[var u [.int .i64 0,.int .i64 0] 309]):=by
 refine Tri.en func131 H ntmps131 H fun w0=>J.co 6 H<|O.p (Pu.build [] [.int .i64 0,.int .i64 0] #[(0,1),(1,1)] U309 Y309 (places309 N309) H (by kernel_rfl)) H<|O.l (Lo.bx H H) H ?_
 rintro _ _ ⟨g1,rfl,rfl⟩
 refine O.oc 2 H ?_
 exact J.r1 [0] H H H ⟨g1,H,H⟩
theorem di_Tier (d:Nat) (tiers tier held:Int):Tri prog 118 #[.pointer (some ⟨d,0,none⟩)] [var d [.bool true,.int .i64 tiers,.int .i64 tier,.int .i64 held] 296] [] (fun v L'=>v=.int .i64 tier∧L'=[]):=by
 refine Tri.en func118 H ntmps118 H fun w0=>J.co 8 H<|O.p (Pu.someEq N168 H) H<|O.oo 8 H<|O.q (Qt.lw 0 A3 H H H) H<|O.oc 2 H ?_
 exact J.r0 H H ⟨H,H⟩
theorem di_stay (d:Nat) (tiers tier held:Int) (op:Bool) (ht0:0≤tier) (ht1:tier≤tiers) (ht2:tiers≤7):Tri prog 289 #[.pointer (some ⟨d,0,none⟩),.bool op] [] [var d [.bool true,.int .i64 tiers,.int .i64 tier,.int .i64 held] 296] (fun v L'=>v=.bool (false)∧L'=[var d [.bool true,.int .i64 tiers,.int .i64 tier,.int .i64 held] 296]):=by
 refine Tri.en func289 H ntmps289 H fun w0=>J.cc 8 H ?_
 exact J.r1 [0] H H H ⟨by simp_all [vOf],by simp_all⟩
theorem di_less (d:Nat) (tiers tier held:Int) (op:Bool) (ht0:0≤tier) (ht1:tier≤tiers) (ht2:tiers≤7):Tri prog 290 #[.pointer (some ⟨d,0,none⟩),.bool op] [] [var d [.bool true,.int .i64 tiers,.int .i64 tier,.int .i64 held] 296] (fun v L'=>v=.bool (decide (tier≠0))∧L'=[var d [.bool true,.int .i64 tiers,.int .i64 (if tier=0 then tier else tier-1),.int .i64 held] 296]):=by
 refine Tri.en func290 H ntmps290 H fun w0=>J.co 10 H<|O.q (Qt.lv 0 A3 H H H) H<|O.oc 2 H ?_
 refine J.cd H (fun p1=>?_) (fun p1=>?_)
 ·
  refine J.cc 4 H ?_
  exact J.r1 [0] H H H ⟨by simp_all [vOf],by simp_all⟩
 refine J.co 6 H<|O.q (Qt.lv 0 A3 H H H) H<|O.p (Pu.sub' H H (by omega)) H<|O.oo 2 H<|O.l0 (Lo.st 0 Z3 H H H H H H H) ?_
 rintro _ _ rfl
 refine O.oc 5 H ?_
 exact J.r1 [0] H H H ⟨by simp_all [vOf],by simp_all⟩
theorem di_more (d:Nat) (tiers tier held:Int) (op:Bool) (ht0:0≤tier) (ht1:tier≤tiers) (ht2:tiers≤7):Tri prog 291 #[.pointer (some ⟨d,0,none⟩),.bool op] [] [var d [.bool true,.int .i64 tiers,.int .i64 tier,.int .i64 held] 296] (fun v L'=>v=.bool (op&&decide (tier≠tiers))∧L'=[var d [.bool true,.int .i64 tiers,.int .i64 (if op=false∨tier=tiers then tier else tier+1),.int .i64 held] 296]):=by
 refine Tri.en func291 H ntmps291 H fun w0=>J.cc 6 H<|J.drawStill Tryz.mixed (by kernel_rfl)<|S.r 3 H ?_
 refine S.sp 7 H (fun h1=>?_) (fun h1=>?_)
 ·
  have h2:op=false:=not_flip h1
  subst h2
  refine S.r 10 H<|S.endJ<|J.cc 5 H ?_
  exact J.r1 [0] H H H ⟨by simp_all [vOf],by simp_all⟩
 have h3:op=true:=not_flip h1
 subst h3
 refine S.r 3 H<|S.gz (Qt.lv 0 A3 H H H) H H<|S.r 3 H<|S.gz (Qt.lv 0 A3 H H H) H H<|S.r 2 H<|S.endJ ?_
 refine J.cd H (fun p4=>?_) (fun p4=>?_)
 ·
  refine J.cc 4 H ?_
  exact J.r1 [0] H H H ⟨by simp_all [vOf],by simp_all⟩
 refine J.co 6 H<|O.q (Qt.lv 0 A3 H H H) H<|O.p (Pu.add' H H (by omega)) H<|O.oo 2 H<|O.l0 (Lo.st 0 Z3 H H H H H H H) ?_
 rintro _ _ rfl
 refine O.oc 5 H ?_
 exact J.r1 [0] H H H ⟨by simp_all [vOf],by simp_all⟩
theorem di_Step0 (d:Nat) (tiers tier held:Int) (op:Bool) (dwell:Int) (ht0:0≤tier) (ht1:tier≤tiers) (ht2:tiers≤7):Tri prog 213 #[.pointer (some ⟨d,0,none⟩),.int .i64 0,.bool op,.int .i64 dwell] [] [var d [.bool true,.int .i64 tiers,.int .i64 tier,.int .i64 held] 296] (fun v L'=>v=.bool (Nd.dimStep tiers tier held 0 op dwell).1∧L'=[var d [.bool true,.int .i64 tiers,.int .i64 ((Nd.dimStep tiers tier held 0 op dwell).2.1),.int .i64 ((Nd.dimStep tiers tier held 0 op dwell).2.2)] 296]):=by
 refine Tri.en func213 H ntmps213 H fun w0=>J.co 8 H<|O.p (Pu.someEq N168 H) H<|O.oo 4 H<|O.gz (Qt.lv 0 A4 H H H) H H<|O.oo 11 H<|O.q (Qt.lv 0 A3 H H H) H<|O.l (Lo.ca C288 (bd_Add held 1) [] H H .nil) H ?_
 rintro _ _ ⟨_,⟨rfl,rfl⟩,rfl⟩
 refine O.oo 2 H<|O.l0 (Lo.st 0 Z3 H H H H H H H) ?_
 rintro _ _ rfl
 refine O.oo 7 H<|O.q (Qt.lv 0 A3 H H H) H<|O.oc 3 H ?_
 refine J.cd H (fun p2=>?_) (fun p2=>?_)
 ·
  refine J.cc 4 H ?_
  exact J.r1 [0] H H H (by have hts:Nd.dimStep tiers tier held 0 op dwell=(false,tier,Nd.addC held 1):=(by unfold Nd.dimStep;(repeat' split)<;>first|rfl|(exfalso;omega)|(simp_all;done)|(exfalso;simp_all;done)|(exfalso;simp_all;omega));rw [hts];exact ⟨rfl,rfl⟩)
 refine J.co 3 H<|O.p (Pu.buildA [(0,.func (.func 289) #[] #[]),(1,.func (.func 290) #[] #[]),(2,.func (.func 291) #[] #[])] [.func (.func 289) #[] #[],.func (.func 290) #[] #[],.func (.func 291) #[] #[]] U356 Y356 Z354 H (by kernel_rfl)) H<|O.l (Lo.al Y356 H) H ?_
 rintro _ _ ⟨g3,rfl,rfl⟩
 refine O.l0 (Lo.st 0 sizeOf356 H H H H H H H) ?_
 rintro _ _ rfl
 refine O.oo 12 H<|O.gz (Pu.qt (Pu.indexAddrK 0 U356 Z354 H H (by decide) (by decide) H)) H H<|O.gz (Qt.lv 0 isAgg354 H H H) H H<|O.oo 2 H<|O.gy (Lo.cv call289 H H (di_stay d tiers tier (Nd.addC held 1) op ht0 ht1 ht2) [1] H .nil) H H ?_
 rintro _ _ ⟨_,⟨rfl,rfl⟩,rfl⟩
 refine O.oc 8 H ?_
 exact J.r1 [0] H H H (by have hts:Nd.dimStep tiers tier held 0 op dwell=(false,tier,Nd.addC held 1):=(by unfold Nd.dimStep;(repeat' split)<;>first|rfl|(exfalso;omega)|(simp_all;done)|(exfalso;simp_all;done)|(exfalso;simp_all;omega));rw [hts];exact ⟨rfl,rfl⟩)
theorem di_Step1 (d:Nat) (tiers tier held:Int) (op:Bool) (dwell:Int) (ht0:0≤tier) (ht1:tier≤tiers) (ht2:tiers≤7):Tri prog 213 #[.pointer (some ⟨d,0,none⟩),.int .i64 1,.bool op,.int .i64 dwell] [] [var d [.bool true,.int .i64 tiers,.int .i64 tier,.int .i64 held] 296] (fun v L'=>v=.bool (Nd.dimStep tiers tier held 1 op dwell).1∧L'=[var d [.bool true,.int .i64 tiers,.int .i64 ((Nd.dimStep tiers tier held 1 op dwell).2.1),.int .i64 ((Nd.dimStep tiers tier held 1 op dwell).2.2)] 296]):=by
 refine Tri.en func213 H ntmps213 H fun w0=>J.co 8 H<|O.p (Pu.someEq N168 H) H<|O.oo 4 H<|O.gz (Qt.lv 0 A4 H H H) H H<|O.oo 11 H<|O.q (Qt.lv 0 A3 H H H) H<|O.l (Lo.ca C288 (bd_Add held 1) [] H H .nil) H ?_
 rintro _ _ ⟨_,⟨rfl,rfl⟩,rfl⟩
 refine O.oo 2 H<|O.l0 (Lo.st 0 Z3 H H H H H H H) ?_
 rintro _ _ rfl
 refine O.oo 7 H<|O.q (Qt.lv 0 A3 H H H) H<|O.oc 3 H ?_
 refine J.cd H (fun p2=>?_) (fun p2=>?_)
 ·
  refine J.cc 4 H ?_
  exact J.r1 [0] H H H (by have hts:Nd.dimStep tiers tier held 1 op dwell=(false,tier,Nd.addC held 1):=(by unfold Nd.dimStep;(repeat' split)<;>first|rfl|(exfalso;omega)|(simp_all;done)|(exfalso;simp_all;done)|(exfalso;simp_all;omega));rw [hts];exact ⟨rfl,rfl⟩)
 refine J.co 3 H<|O.p (Pu.buildA [(0,.func (.func 289) #[] #[]),(1,.func (.func 290) #[] #[]),(2,.func (.func 291) #[] #[])] [.func (.func 289) #[] #[],.func (.func 290) #[] #[],.func (.func 291) #[] #[]] U356 Y356 Z354 H (by kernel_rfl)) H<|O.l (Lo.al Y356 H) H ?_
 rintro _ _ ⟨g3,rfl,rfl⟩
 refine O.l0 (Lo.st 0 sizeOf356 H H H H H H H) ?_
 rintro _ _ rfl
 refine O.oo 12 H<|O.gz (Pu.qt (Pu.indexAddrK 1 U356 Z354 H H (by decide) (by decide) H)) H H<|O.gz (Qt.lv 0 isAgg354 H H H) H H<|O.oo 2 H<|O.gy (Lo.cv call290 H H (di_less d tiers tier (Nd.addC held 1) op ht0 ht1 ht2) [1] H .nil) H H ?_
 rintro _ _ ⟨_,⟨rfl,rfl⟩,rfl⟩
 refine O.oc 3 H ?_
 refine J.cond H (fun h5=>?_) (fun h5=>?_)
 ·
  have h6:(decide (tier≠0))=false:=not_flip h5
  have p7:=of_decide_eq_false h6
  refine J.cc 4 H ?_
  exact J.r1 [0] H H H (by have hts:Nd.dimStep tiers tier held 1 op dwell=(false,if tier=0 then tier else tier-1,Nd.addC held 1):=(by unfold Nd.dimStep;(repeat' split)<;>first|rfl|(exfalso;omega)|(simp_all;done)|(exfalso;simp_all;done)|(exfalso;simp_all;omega));rw [hts];exact ⟨rfl,rfl⟩)
 have h8:(decide (tier≠0))=true:=not_flip h5
 have p9:=of_decide_eq_true h8
 refine J.co 6 H<|O.l0 (Lo.st 0 Z3 H H H H H H H) ?_
 rintro _ _ rfl
 refine O.oc 5 H ?_
 exact J.r1 [0] H H H (by have hts:Nd.dimStep tiers tier held 1 op dwell=(true,if tier=0 then tier else tier-1,0):=(by unfold Nd.dimStep;(repeat' split)<;>first|rfl|(exfalso;omega)|(simp_all;done)|(exfalso;simp_all;done)|(exfalso;simp_all;omega));rw [hts];exact ⟨rfl,rfl⟩)
theorem di_Step2 (d:Nat) (tiers tier held:Int) (op:Bool) (dwell:Int) (ht0:0≤tier) (ht1:tier≤tiers) (ht2:tiers≤7):Tri prog 213 #[.pointer (some ⟨d,0,none⟩),.int .i64 2,.bool op,.int .i64 dwell] [] [var d [.bool true,.int .i64 tiers,.int .i64 tier,.int .i64 held] 296] (fun v L'=>v=.bool (Nd.dimStep tiers tier held 2 op dwell).1∧L'=[var d [.bool true,.int .i64 tiers,.int .i64 ((Nd.dimStep tiers tier held 2 op dwell).2.1),.int .i64 ((Nd.dimStep tiers tier held 2 op dwell).2.2)] 296]):=by
 refine Tri.en func213 H ntmps213 H fun w0=>J.co 8 H<|O.p (Pu.someEq N168 H) H<|O.oo 4 H<|O.gz (Qt.lv 0 A4 H H H) H H<|O.oo 11 H<|O.q (Qt.lv 0 A3 H H H) H<|O.l (Lo.ca C288 (bd_Add held 1) [] H H .nil) H ?_
 rintro _ _ ⟨_,⟨rfl,rfl⟩,rfl⟩
 refine O.oo 2 H<|O.l0 (Lo.st 0 Z3 H H H H H H H) ?_
 rintro _ _ rfl
 refine O.oo 7 H<|O.q (Qt.lv 0 A3 H H H) H<|O.oc 3 H ?_
 refine J.cd H (fun p2=>?_) (fun p2=>?_)
 ·
  refine J.cc 4 H ?_
  exact J.r1 [0] H H H (by have hts:Nd.dimStep tiers tier held 2 op dwell=(false,tier,Nd.addC held 1):=(by unfold Nd.dimStep;(repeat' split)<;>first|rfl|(exfalso;omega)|(simp_all;done)|(exfalso;simp_all;done)|(exfalso;simp_all;omega));rw [hts];exact ⟨rfl,rfl⟩)
 refine J.co 3 H<|O.p (Pu.buildA [(0,.func (.func 289) #[] #[]),(1,.func (.func 290) #[] #[]),(2,.func (.func 291) #[] #[])] [.func (.func 289) #[] #[],.func (.func 290) #[] #[],.func (.func 291) #[] #[]] U356 Y356 Z354 H (by kernel_rfl)) H<|O.l (Lo.al Y356 H) H ?_
 rintro _ _ ⟨g3,rfl,rfl⟩
 refine O.l0 (Lo.st 0 sizeOf356 H H H H H H H) ?_
 rintro _ _ rfl
 refine O.oo 12 H<|O.gz (Pu.qt (Pu.indexAddrK 2 U356 Z354 H H (by decide) (by decide) H)) H H<|O.gz (Qt.lv 0 isAgg354 H H H) H H<|O.oo 2 H<|O.gy (Lo.cv call291 H H (di_more d tiers tier (Nd.addC held 1) op ht0 ht1 ht2) [1] H .nil) H H ?_
 rintro _ _ ⟨_,⟨rfl,rfl⟩,rfl⟩
 refine O.oc 3 H ?_
 refine J.cond H (fun h5=>?_) (fun h5=>?_)
 ·
  have h6:(op&&decide (tier≠tiers))=false:=not_flip h5
  refine J.cc 4 H ?_
  exact J.r1 [0] H H H (by have hts:Nd.dimStep tiers tier held 2 op dwell=(false,if op=false∨tier=tiers then tier else tier+1,Nd.addC held 1):=(by unfold Nd.dimStep;(repeat' split)<;>first|rfl|(exfalso;omega)|(simp_all;done)|(exfalso;simp_all;done)|(exfalso;simp_all;omega));rw [hts];exact ⟨rfl,rfl⟩)
 have h7:(op&&decide (tier≠tiers))=true:=not_flip h5
 refine J.co 6 H<|O.l0 (Lo.st 0 Z3 H H H H H H H) ?_
 rintro _ _ rfl
 refine O.oc 5 H ?_
 exact J.r1 [0] H H H (by have hts:Nd.dimStep tiers tier held 2 op dwell=(true,if op=false∨tier=tiers then tier else tier+1,0):=(by unfold Nd.dimStep;(repeat' split)<;>first|rfl|(exfalso;omega)|(simp_all;done)|(exfalso;simp_all;done)|(exfalso;simp_all;omega));rw [hts];exact ⟨rfl,rfl⟩)
theorem di_Clear (d:Nat) (tiers tier held:Int):Tri prog 218 #[.pointer (some ⟨d,0,none⟩)] [] [var d [.bool true,.int .i64 tiers,.int .i64 tier,.int .i64 held] 296] (fun v L'=>v=.tuple #[]∧L'=[var d [.bool true,.int .i64 tiers,.int .i64 tiers,.int .i64 32] 296]):=by
 refine Tri.en func218 H ntmps218 H fun w0=>J.co 3 H<|O.p (Pu.ptrNe N168 H) H<|O.oo 4 H<|O.gz (Qt.lv 0 A4 H H H) H H<|O.oo 9 H<|O.q (Qt.lv 0 A3 H H H) H<|O.oo 2 H<|O.l0 (Lo.st 0 Z3 H H H H H H H) ?_
 rintro _ _ rfl
 refine O.oo 2 H<|O.l0 (Lo.st 0 Z3 H H H H H H H) ?_
 rintro _ _ rfl
 refine O.nil ?_
 exact J.dn [] [0] H trivial H ⟨H,H⟩
theorem di_New (tiers:Int) (ht0:0≤tiers) (ht2:tiers≤7):Tri prog 129 #[.int .i64 tiers] [] [] (fun v L'=>∃ d,v=.tuple #[.pointer (some ⟨d,0,none⟩),.int .i64 0]∧L'=[var d [.bool true,.int .i64 tiers,.int .i64 tiers,.int .i64 32] 296]):=by
 refine Tri.en func129 H ntmps129 H fun w0=>J.co 11 H<|O.kf 7 H (decide_eq_false (by omega))<|O.oc 4 H<|J.condF H (decide_eq_false (by omega))<|J.co 4 H<|O.p (Pu.build [(0,.bool true),(1,.int .i64 tiers)] [.bool true,.int .i64 tiers,.int .i64 0,.int .i64 0] #[(0,1),(1,1),(2,1),(3,1)] runUnderlying296 zeroValue296 (places296 underlying296) H (by kernel_rfl)) H<|O.l (Lo.bx H H) H ?_
 rintro _ _ ⟨g1,rfl,rfl⟩
 refine O.oo 5 H<|O.l (Lo.ca call218 (di_Clear g1 tiers 0 0) [0] H H .nil) H ?_
 rintro _ _ ⟨_,⟨rfl,rfl⟩,rfl⟩
 refine O.oc 7 H ?_
 exact J.rn [_,_] [0] H ⟨H,H,trivial⟩ H ⟨g1,H,H⟩
theorem hi_has (h:Nat) (lev:Int) (hl:List Int) (x:Int):Tri prog 315 #[.pointer (some ⟨h,0,none⟩),.int .i64 x] [var h ([Value.int .i64 lev]++hl.map (Value.int .i64)) 302] [] (fun v L'=>v=.bool (Nd.hasL lev x)∧L'=[]):=by
 refine Tri.en func315 H ntmps315 H fun w0=>J.co 7 H<|O.p (Pu.ptrNe N169 H) H<|O.oo 5 H ?_
 refine O.sd 11 H (fun p1=>?_) (fun p1=>?_)
 ·
  refine O.oo 4 H<|O.gz (Qt.lw 0 A3 H H H) H H<|O.oc 4 H ?_
  exact J.r0 H H ⟨by simp [vOf,Nd.hasL, *],rfl⟩
 refine O.oc 9 H ?_
 exact J.r0 H H ⟨by simp [vOf,Nd.hasL, *],rfl⟩
theorem hi_Add (h:Nat) (lev:Int) (hl:List Int) (x n:Int) (hn:hl.length=128) (hv0:0≤lev) (hv1:lev≤128):Tri prog 261 #[.pointer (some ⟨h,0,none⟩),.int .i64 x,.int .i64 n] [] [var h ([Value.int .i64 lev]++hl.map (Value.int .i64)) 302] (fun v L'=>∃ l:List Int,v=.bool (Nd.hasL lev x)∧l.length=128∧L'=[var h ([Value.int .i64 lev]++l.map (Value.int .i64)) 302]):=by
 refine Tri.en func261 H ntmps261 H fun w0=>J.co 9 H<|O.l (Lo.ca call315 (hi_has h lev hl x) [] H H (.own 0 H H .nil)) H ?_
 rintro _ _ ⟨_,⟨rfl,rfl⟩,rfl⟩
 refine O.oc 2 H ?_
 refine J.cond H (fun h2=>?_) (fun h2=>?_)
 ·
  have h3:(Nd.hasL lev x)=false:=not_flip h2
  refine J.cc 4 H ?_
  exact J.r1 [0] H H H ⟨_,(by simp [vOf, *]),(by first|exact hn|simp [hn]),H⟩
 have h4:(Nd.hasL lev x)=true:=not_flip h2
 refine J.cc 2 H<|J.drawHead 13 Tryz.mixed (by kernel_rfl)<|Hd.p (Pu.move H) H<|Hd.p (Pu.move H) H<|Hd.p (Pu.move H) H<|Hd.p (Pu.move H) H<|Hd.p (Pu.nilCheck H) H<|Hd.p (Pu.fieldAddr (off':=1) U302 H sizeOf300 H H H) H ?_
 obtain ⟨e5,he6⟩:=ex_at (l:=hl) (i:=(x).toNat) (by first|omega|(have h_:=Nd.hasL_iff.1 (by assumption:Nd.hasL lev x=true);omega))
 refine Hd.p (Pu.indexAddrG U300 Z3 H H (by first|omega|(have h_:=Nd.hasL_iff.1 (by assumption:Nd.hasL lev x=true);omega)) (by first|omega|(have h_:=Nd.hasL_iff.1 (by assumption:Nd.hasL lev x=true);omega))) H<|Hd.q (Qt.ld H (Cel.var 0 H) (o:=0) (off:=1+(x).toNat) (by omega) (Cut.one A3 (at_hd H he6))) H<|Hd.p (Pu.move H) H<|Hd.call (vs:=[.int .i64 e5,.int .i64 n]) (caps:=[]) (by exact C288) H H (bd_Add e5 n) (fun _ _ h=>h) RoOk.nil H<|Hd.p (Pu.nilCheck H) H<|Hd.p (Pu.fieldAddr (off':=1) U302 H sizeOf300 H H H) H<|Hd.p (Pu.indexAddrG U300 Z3 H H (by first|omega|(have h_:=Nd.hasL_iff.1 (by assumption:Nd.hasL lev x=true);omega)) (by first|omega|(have h_:=Nd.hasL_iff.1 (by assumption:Nd.hasL lev x=true);omega))) H<|Hd.nil<|O.l0 (Lo.store 0 (vs:=[.int .i64 (Nd.addC e5 n)]) ([Value.int .i64 lev]++(hl.set (x).toNat (Nd.addC e5 n)).map (Value.int .i64)) H H H Z3 H H H (set_hd (f:=(Value.int .i64)) (hd:=[Value.int .i64 lev]) (n:=0+1) (x:=Nd.addC e5 n) (l:=hl) (i:=(x).toNat) H (by first|omega|(have h_:=Nd.hasL_iff.1 (by assumption:Nd.hasL lev x=true);omega))) (hd_fits (f:=(Value.int .i64)) (hd:=[Value.int .i64 lev]) (n:=0+1) (l:=hl) (i:=(x).toNat) H (by first|omega|(have h_:=Nd.hasL_iff.1 (by assumption:Nd.hasL lev x=true);omega)))) ?_
 rintro _ _ rfl
 refine O.oc 5 H ?_
 exact J.r1 [0] H H H ⟨_,(by simp [vOf, *]),(by first|exact hn|simp [hn]),H⟩
theorem hi_Count (h:Nat) (lev:Int) (hl:List Int) (x:Int) (hn:hl.length=128) (hv0:0≤lev) (hv1:lev≤128):Tri prog 178 #[.pointer (some ⟨h,0,none⟩),.int .i64 x] [] [var h ([Value.int .i64 lev]++hl.map (Value.int .i64)) 302] (fun v L'=>∃ l:List Int,v=.bool (Nd.hasL lev x)∧l.length=128∧L'=[var h ([Value.int .i64 lev]++l.map (Value.int .i64)) 302]):=by
 refine Tri.en func178 H ntmps178 H fun w0=>J.co 8 H<|O.l (Lo.ca call261 (hi_Add h lev hl x 1 hn hv0 hv1) [0] H H .nil) H ?_
 rintro _ _ ⟨_,⟨l1,rfl,hn2,rfl⟩,rfl⟩
 have hn:=hn2
 refine O.oc 2 H ?_
 exact J.r1 [0] H H H ⟨_,H,hn,H⟩
theorem hi_Many (h:Nat) (lev:Int) (hl:List Int) (x:Int) (hn:hl.length=128) (hv0:0≤lev) (hv1:lev≤128):Tri prog 388 #[.pointer (some ⟨h,0,none⟩),.int .i64 x] [var h ([Value.int .i64 lev]++hl.map (Value.int .i64)) 302] [] (fun v L'=>∃ n:Int,v=.int .i64 n∧L'=[]):=by
 refine Tri.en func388 H ntmps388 H fun w0=>J.co 9 H<|O.l (Lo.ca call315 (hi_has h lev hl x) [] H H (.ro 0 H .nil)) H ?_
 rintro _ _ ⟨_,⟨rfl,rfl⟩,rfl⟩
 refine O.oc 2 H ?_
 refine J.cond H (fun h2=>?_) (fun h2=>?_)
 ·
  have h3:(Nd.hasL lev x)=false:=not_flip h2
  refine J.cc 4 H ?_
  exact J.r0 H H ⟨_,H,H⟩
 have h4:(Nd.hasL lev x)=true:=not_flip h2
 refine J.co 7 H ?_
 obtain ⟨e5,he6⟩:=ex_at (l:=hl) (i:=(x).toNat) (by first|omega|(have h_:=Nd.hasL_iff.1 (by assumption:Nd.hasL lev x=true);omega))
 refine O.p (Pu.indexAddrG U300 Z3 H H (by first|omega|(have h_:=Nd.hasL_iff.1 (by assumption:Nd.hasL lev x=true);omega)) (by first|omega|(have h_:=Nd.hasL_iff.1 (by assumption:Nd.hasL lev x=true);omega))) H<|O.q (Qt.ld H (Cel.roVar 0 H) (o:=0) (off:=1+(x).toNat) (by omega) (Cut.one A3 (at_hd H he6))) H<|O.oc 2 H ?_
 exact J.r0 H H ⟨_,H,H⟩
theorem hi_Clear (h:Nat) (lev:Int) (hl:List Int) (hn:hl.length=128):Tri prog 292 #[.pointer (some ⟨h,0,none⟩)] [] [var h ([Value.int .i64 lev]++hl.map (Value.int .i64)) 302] (fun v L'=>v=.tuple #[]∧L'=[var h ([Value.int .i64 lev]++(List.replicate 128 (0:Int)).map (Value.int .i64)) 302]):=by
 refine Tri.en func292 H ntmps292 H fun w0=>J.co 3 H<|O.p (Pu.ptrNe N169 H) H<|O.oo 4 H<|O.p (Pu.buildA [] [.int .i64 0,.int .i64 0,.int .i64 0,.int .i64 0,.int .i64 0,.int .i64 0,.int .i64 0,.int .i64 0,.int .i64 0,.int .i64 0,.int .i64 0,.int .i64 0,.int .i64 0,.int .i64 0,.int .i64 0,.int .i64 0,.int .i64 0,.int .i64 0,.int .i64 0,.int .i64 0,.int .i64 0,.int .i64 0,.int .i64 0,.int .i64 0,.int .i64 0,.int .i64 0,.int .i64 0,.int .i64 0,.int .i64 0,.int .i64 0,.int .i64 0,.int .i64 0,.int .i64 0,.int .i64 0,.int .i64 0,.int .i64 0,.int .i64 0,.int .i64 0,.int .i64 0,.int .i64 0,.int .i64 0,.int .i64 0,.int .i64 0,.int .i64 0,.int .i64 0,.int .i64 0,.int .i64 0,.int .i64 0,.int .i64 0,.int .i64 0,.int .i64 0,.int .i64 0,.int .i64 0,.int .i64 0,.int .i64 0,.int .i64 0,.int .i64 0,.int .i64 0,.int .i64 0,.int .i64 0,.int .i64 0,.int .i64 0,.int .i64 0,.int .i64 0,.int .i64 0,.int .i64 0,.int .i64 0,.int .i64 0,.int .i64 0,.int .i64 0,.int .i64 0,.int .i64 0,.int .i64 0,.int .i64 0,.int .i64 0,.int .i64 0,.int .i64 0,.int .i64 0,.int .i64 0,.int .i64 0,.int .i64 0,.int .i64 0,.int .i64 0,.int .i64 0,.int .i64 0,.int .i64 0,.int .i64 0,.int .i64 0,.int .i64 0,.int .i64 0,.int .i64 0,.int .i64 0,.int .i64 0,.int .i64 0,.int .i64 0,.int .i64 0,.int .i64 0,.int .i64 0,.int .i64 0,.int .i64 0,.int .i64 0,.int .i64 0,.int .i64 0,.int .i64 0,.int .i64 0,.int .i64 0,.int .i64 0,.int .i64 0,.int .i64 0,.int .i64 0,.int .i64 0,.int .i64 0,.int .i64 0,.int .i64 0,.int .i64 0,.int .i64 0,.int .i64 0,.int .i64 0,.int .i64 0,.int .i64 0,.int .i64 0,.int .i64 0,.int .i64 0,.int .i64 0,.int .i64 0,.int .i64 0,.int .i64 0,.int .i64 0] U300 zeroValue300 Z3 H (by kernel_rfl)) H<|O.oo 2 H<|O.l0 (Lo.store 0 (vs:=List.replicate 128 ((Value.int .i64) (0:Int))) ([Value.int .i64 lev]++(List.replicate 128 (0:Int)).map (Value.int .i64)) H H H sizeOf300 H H H (set_all (f:=(Value.int .i64)) (hd:=[Value.int .i64 lev]) (n:=0+1) H hn) (by rw [Nat.ble_eq,List.length_append,List.length_map,hn];simp)) ?_
 rintro _ _ rfl
 refine O.nil ?_
 exact J.dn [] [0] H trivial H ⟨H,H⟩
theorem hi_New (lev:Int) (hv0:1≤lev) (hv1:lev≤128):Tri prog 128 #[.int .i64 lev] [] [] (fun v L'=>∃ h,v=.tuple #[.pointer (some ⟨h,0,none⟩),.int .i64 0]∧L'=[var h ([Value.int .i64 lev]++(List.replicate 128 (0:Int)).map (Value.int .i64)) 302]):=by
 refine Tri.en func128 H ntmps128 H fun w0=>J.co 11 H<|O.kf 6 H (decide_eq_false (by omega))<|O.oc 4 H<|J.condF H (decide_eq_false (by omega))<|J.co 4 H<|O.p (Pu.build [(0,.int .i64 lev)] [.int .i64 lev,.int .i64 0,.int .i64 0,.int .i64 0,.int .i64 0,.int .i64 0,.int .i64 0,.int .i64 0,.int .i64 0,.int .i64 0,.int .i64 0,.int .i64 0,.int .i64 0,.int .i64 0,.int .i64 0,.int .i64 0,.int .i64 0,.int .i64 0,.int .i64 0,.int .i64 0,.int .i64 0,.int .i64 0,.int .i64 0,.int .i64 0,.int .i64 0,.int .i64 0,.int .i64 0,.int .i64 0,.int .i64 0,.int .i64 0,.int .i64 0,.int .i64 0,.int .i64 0,.int .i64 0,.int .i64 0,.int .i64 0,.int .i64 0,.int .i64 0,.int .i64 0,.int .i64 0,.int .i64 0,.int .i64 0,.int .i64 0,.int .i64 0,.int .i64 0,.int .i64 0,.int .i64 0,.int .i64 0,.int .i64 0,.int .i64 0,.int .i64 0,.int .i64 0,.int .i64 0,.int .i64 0,.int .i64 0,.int .i64 0,.int .i64 0,.int .i64 0,.int .i64 0,.int .i64 0,.int .i64 0,.int .i64 0,.int .i64 0,.int .i64 0,.int .i64 0,.int .i64 0,.int .i64 0,.int .i64 0,.int .i64 0,.int .i64 0,.int .i64 0,.int .i64 0,.int .i64 0,.int .i64 0,.int .i64 0,.int .i64 0,.int .i64 0,.int .i64 0,.int .i64 0,.int .i64 0,.int .i64 0,.int .i64 0,.int .i64 0,.int .i64 0,.int .i64 0,.int .i64 0,.int .i64 0,.int .i64 0,.int .i64 0,.int .i64 0,.int .i64 0,.int .i64 0,.int .i64 0,.int .i64 0,.int .i64 0,.int .i64 0,.int .i64 0,.int .i64 0,.int .i64 0,.int .i64 0,.int .i64 0,.int .i64 0,.int .i64 0,.int .i64 0,.int .i64 0,.int .i64 0,.int .i64 0,.int .i64 0,.int .i64 0,.int .i64 0,.int .i64 0,.int .i64 0,.int .i64 0,.int .i64 0,.int .i64 0,.int .i64 0,.int .i64 0,.int .i64 0,.int .i64 0,.int .i64 0,.int .i64 0,.int .i64 0,.int .i64 0,.int .i64 0,.int .i64 0,.int .i64 0,.int .i64 0,.int .i64 0,.int .i64 0] #[(0,1),(1,128)] U302 zeroValue302 (places302 underlying302) H (by kernel_rfl)) H<|O.l (Lo.bx H H) H ?_
 rintro _ _ ⟨g1,rfl,rfl⟩
 refine O.oc 3 H ?_
 exact J.rn [_,_] [0] H ⟨H,H,trivial⟩ H ⟨g1,H,H⟩
theorem rq_Item (id fr to level dl bu now seq:Int):Tri prog 84 #[.agg #[.int .i64 id,.int .i64 fr,.int .i64 to,.int .i64 level,.int .i64 dl,.int .i64 bu],.int .i64 now,.int .i64 seq] [] [] (fun v L'=>v=.agg #[.int .i64 id,.int .i64 level,.int .i64 fr,.int .i64 dl,.int .i64 bu,.int .i64 now,.int .i64 seq]∧L'=[]):=by
 refine Tri.en func84 H ntmps84 H fun w0=>J.co 2 H<|O.l (Lo.bx H H) H ?_
 rintro _ _ ⟨g1,rfl,rfl⟩
 refine O.l (Lo.al Y66 H) H ?_
 rintro _ _ ⟨g2,rfl,rfl⟩
 refine O.oo 4 H<|O.q (Qt.lv 1 A3 H H H) H<|O.oo 1 H<|O.q (Qt.lv 1 A3 H H H) H<|O.oo 1 H<|O.q (Qt.lv 1 A3 H H H) H<|O.oo 1 H<|O.q (Qt.lv 1 A3 H H H) H<|O.oo 1 H<|O.q (Qt.lv 1 A3 H H H) H<|O.oo 2 H<|O.p (Pu.build [(0,.int .i64 id),(1,.int .i64 level),(2,.int .i64 fr),(3,.int .i64 dl),(4,.int .i64 bu),(5,.int .i64 now),(6,.int .i64 seq)] [.int .i64 id,.int .i64 level,.int .i64 fr,.int .i64 dl,.int .i64 bu,.int .i64 now,.int .i64 seq] #[(0,1),(1,1),(2,1),(3,1),(4,1),(5,1),(6,1)] U66 Y66 (places66 N66) H (by kernel_rfl)) H<|O.l0 (Lo.st 0 Z66 H H H H H H H) ?_
 rintro _ _ rfl
 refine O.nil ?_
 exact J.rn [_] [] H ⟨⟨_,_,0,0,_,H,(Cel.var 0 H),H,(Cut.agg [.int .i64 id,.int .i64 level,.int .i64 fr,.int .i64 dl,.int .i64 bu,.int .i64 now,.int .i64 seq] A66 Z66 H H)⟩,trivial⟩ H ⟨H,H⟩
theorem rp_To (id fr to level dl bu code thr ep tier:Int):Tri prog 181 #[.agg #[.int .i64 id,.int .i64 fr,.int .i64 to,.int .i64 level,.int .i64 dl,.int .i64 bu],.int .i64 code,.int .i64 thr,.int .i64 ep,.int .i64 tier] [] [] (fun v L'=>v=.agg #[.int .i64 id,.int .i64 to,.int .i64 fr,.int .i64 code,.int .i64 thr,.int .i64 ep,.int .i64 tier]∧L'=[]):=by
 refine Tri.en func181 H ntmps181 H fun w0=>J.co 2 H<|O.l (Lo.bx H H) H ?_
 rintro _ _ ⟨g1,rfl,rfl⟩
 refine O.l (Lo.al zeroValue43 H) H ?_
 rintro _ _ ⟨g2,rfl,rfl⟩
 refine O.oo 4 H<|O.q (Qt.lv 1 A3 H H H) H<|O.oo 1 H<|O.q (Qt.lv 1 A3 H H H) H<|O.oo 1 H<|O.q (Qt.lv 1 A3 H H H) H<|O.oo 4 H<|O.p (Pu.build [(0,.int .i64 id),(1,.int .i64 to),(2,.int .i64 fr),(3,.int .i64 code),(4,.int .i64 thr),(5,.int .i64 ep),(6,.int .i64 tier)] [.int .i64 id,.int .i64 to,.int .i64 fr,.int .i64 code,.int .i64 thr,.int .i64 ep,.int .i64 tier] #[(0,1),(1,1),(2,1),(3,1),(4,1),(5,1),(6,1)] U43 zeroValue43 (places43 underlying43) H (by kernel_rfl)) H<|O.l0 (Lo.st 0 Z43 H H H H H H H) ?_
 rintro _ _ rfl
 refine O.nil ?_
 exact J.rn [_] [] H ⟨⟨_,_,0,0,_,H,(Cel.var 0 H),H,(Cut.agg [.int .i64 id,.int .i64 to,.int .i64 fr,.int .i64 code,.int .i64 thr,.int .i64 ep,.int .i64 tier] isAgg43 Z43 H H)⟩,trivial⟩ H ⟨H,H⟩
theorem rp_within (n a b:Int):Tri prog 197 #[.int .i64 n,.int .i64 a,.int .i64 b] [] [] (fun v L'=>v=.bool (Nd.within n a b)∧L'=[]):=by
 refine Tri.en func197 H ntmps197 H fun w0=>J.co 10 H ?_
 refine O.sd 10 H (fun p1=>?_) (fun p1=>?_)
 ·
  refine O.oc 6 H ?_
  exact J.r0 H H ⟨by simp [vOf,Nd.within, *],rfl⟩
 refine O.oc 6 H ?_
 exact J.r0 H H ⟨by simp [vOf,Nd.within, *],rfl⟩
theorem sl_Part (n k:Int):Tri prog 355 #[.int .i64 n,.int .i64 k] [] [] (fun v L'=>v=.int .i64 (Nd.part n k)∧L'=[]):=by
 refine Tri.en func355 H ntmps355 H fun w0=>J.co 7 H<|O.l (Lo.ca C199 (bd_Keep n 1099511627776) [] H H .nil) H ?_
 rintro _ _ ⟨_,⟨rfl,rfl⟩,rfl⟩
 refine O.oo 1 H<|O.l (Lo.ca C199 (bd_Keep k 8) [] H H .nil) H ?_
 rintro _ _ ⟨_,⟨rfl,rfl⟩,rfl⟩
 refine O.p (Pu.mul' H H (by first|omega|(have h_:=Nd.part_mul (left:=n) (weight:=k);omega))) H<|O.p (Pu.quo' H H (by first|omega|(have h_:=Nd.part_mul (left:=n) (weight:=k);omega)) (by omega) (by first|omega|(have h_:=Nd.part_mul (left:=n) (weight:=k);omega))) H<|O.oc 2 H ?_
 exact J.r0 H H ⟨H,H⟩
theorem sl_Hop (n k:Int):Tri prog 356 #[.int .i64 n,.int .i64 k] [] [] (fun v L'=>v=.int .i64 (Nd.hop n k)∧L'=[]):=by
 refine Tri.en func356 H ntmps356 H fun w0=>J.co 7 H<|O.l (Lo.ca C199 (bd_Keep n 1099511627776) [] H H .nil) H ?_
 rintro _ _ ⟨_,⟨rfl,rfl⟩,rfl⟩
 refine O.p (Pu.quo' H H (by first|omega|(have h_:=Sh.keep_bnd n (by decide:(0:Int)≤1099511627776);omega)) (by omega) (by first|omega|(have h_:=Sh.keep_bnd n (by decide:(0:Int)≤1099511627776);omega))) H<|O.oo 1 H<|O.l (Lo.ca C199 (bd_Keep k 65535) [] H H .nil) H ?_
 rintro _ _ ⟨_,⟨rfl,rfl⟩,rfl⟩
 refine O.p (Pu.min H H) H<|O.oc 2 H ?_
 exact J.r0 H H ⟨H,H⟩
theorem sl_Call (now dl w most:Int):Tri prog 322 #[.int .i64 now,.int .i64 dl,.int .i64 w,.int .i64 most] [] [] (fun v L'=>v=.tuple #[.int .i64 (Nd.callS now dl w most).1,.int .i64 (Nd.callS now dl w most).2.1,.bool (Nd.callS now dl w most).2.2]∧L'=[]):=by
 refine Tri.en func322 H ntmps322 H fun w0=>J.co 10 H<|O.l (Lo.ca call187 (bd_Left dl now) [] H H .nil) H ?_
 rintro _ _ ⟨_,⟨rfl,rfl⟩,rfl⟩
 refine O.oo 1 H<|O.l (Lo.ca call355 (sl_Part (Sh.left dl now) w) [] H H .nil) H ?_
 rintro _ _ ⟨_,⟨rfl,rfl⟩,rfl⟩
 refine O.oo 6 H<|O.l (Lo.ca call356 (sl_Hop (Nd.part (Sh.left dl now) w) most) [] H H .nil) H ?_
 rintro _ _ ⟨_,⟨rfl,rfl⟩,rfl⟩
 refine O.oc 8 H ?_
 refine J.cd H (fun p4=>?_) (fun p4=>?_)
 ·
  refine J.cc 6 H ?_
  exact J.rn [_,_,_] [] H ⟨H,H,H,trivial⟩ H ⟨by simp [vOf,Nd.callS, *],rfl⟩
 refine J.co 5 H<|O.l (Lo.ca call102 (bd_Later now (Nd.part (Sh.left dl now) w)) [] H H .nil) H ?_
 rintro _ _ ⟨_,⟨rfl,rfl⟩,rfl⟩
 refine O.oc 5 H ?_
 exact J.rn [_,_,_] [] H ⟨H,H,H,trivial⟩ H ⟨by simp [vOf,Nd.callS, *],rfl⟩
theorem co_made (c u d h l:Nat) (lev tiers k0 k1 k2 k3 k4 k5 k6 thr ep:Int):Tri prog 173 #[.pointer (some ⟨c,0,none⟩)] [var c [.pointer (some ⟨u,0,none⟩),.pointer (some ⟨d,0,none⟩),.int .i64 lev,.int .i64 tiers,.int .i64 k0,.int .i64 k1,.int .i64 k2,.int .i64 k3,.int .i64 k4,.int .i64 k5,.int .i64 k6,.pointer (some ⟨h,0,none⟩),.pointer (some ⟨l,0,none⟩),.int .i64 thr,.int .i64 ep] 172] [] (fun v L'=>v=.bool true∧L'=[]):=by
 refine Tri.en func173 H ntmps173 H fun w0=>J.co 7 H<|O.p (Pu.ptrNe N82 H) H<|O.oo 4 H<|O.gz (Qt.lw 0 A169 H H H) H H<|O.gz (Pu.qt (Pu.ptrNe N169 H)) H H<|O.oc 3 H ?_
 exact J.r0 H H ⟨H,H⟩
theorem co_Threshold (c u d h l:Nat) (lev tiers k0 k1 k2 k3 k4 k5 k6 thr ep:Int):Tri prog 44 #[.pointer (some ⟨c,0,none⟩)] [var c [.pointer (some ⟨u,0,none⟩),.pointer (some ⟨d,0,none⟩),.int .i64 lev,.int .i64 tiers,.int .i64 k0,.int .i64 k1,.int .i64 k2,.int .i64 k3,.int .i64 k4,.int .i64 k5,.int .i64 k6,.pointer (some ⟨h,0,none⟩),.pointer (some ⟨l,0,none⟩),.int .i64 thr,.int .i64 ep] 172] [] (fun v L'=>v=.int .i64 thr∧L'=[]):=by
 refine Tri.en func44 H ntmps44 H fun w0=>J.co 8 H<|O.p (Pu.someEq N82 H) H<|O.oo 8 H<|O.q (Qt.lw 0 A3 H H H) H<|O.oc 2 H ?_
 exact J.r0 H H ⟨H,H⟩
theorem co_Epoch (c u d h l:Nat) (lev tiers k0 k1 k2 k3 k4 k5 k6 thr ep:Int):Tri prog 43 #[.pointer (some ⟨c,0,none⟩)] [var c [.pointer (some ⟨u,0,none⟩),.pointer (some ⟨d,0,none⟩),.int .i64 lev,.int .i64 tiers,.int .i64 k0,.int .i64 k1,.int .i64 k2,.int .i64 k3,.int .i64 k4,.int .i64 k5,.int .i64 k6,.pointer (some ⟨h,0,none⟩),.pointer (some ⟨l,0,none⟩),.int .i64 thr,.int .i64 ep] 172] [] (fun v L'=>v=.int .i64 ep∧L'=[]):=by
 refine Tri.en func43 H ntmps43 H fun w0=>J.co 8 H<|O.p (Pu.someEq N82 H) H<|O.oo 8 H<|O.q (Qt.lw 0 A3 H H H) H<|O.oc 2 H ?_
 exact J.r0 H H ⟨H,H⟩
theorem co_Tier (c u d h l:Nat) (lev tiers k0 k1 k2 k3 k4 k5 k6 thr ep:Int) (dt tier dheld:Int):Tri prog 45 #[.pointer (some ⟨c,0,none⟩)] [var c [.pointer (some ⟨u,0,none⟩),.pointer (some ⟨d,0,none⟩),.int .i64 lev,.int .i64 tiers,.int .i64 k0,.int .i64 k1,.int .i64 k2,.int .i64 k3,.int .i64 k4,.int .i64 k5,.int .i64 k6,.pointer (some ⟨h,0,none⟩),.pointer (some ⟨l,0,none⟩),.int .i64 thr,.int .i64 ep] 172,var d [.bool true,.int .i64 dt,.int .i64 tier,.int .i64 dheld] 296] [] (fun v L'=>v=.int .i64 tier∧L'=[]):=by
 refine Tri.en func45 H ntmps45 H fun w0=>J.co 8 H<|O.p (Pu.someEq N82 H) H<|O.oo 8 H<|O.q (Qt.lw 0 isAgg168 H H H) H<|O.l (Lo.ca call118 (di_Tier d dt tier dheld) [] H H (.ro 1 H .nil)) H ?_
 rintro _ _ ⟨_,⟨rfl,rfl⟩,rfl⟩
 refine O.oc 2 H ?_
 exact J.r0 H H ⟨H,H⟩
theorem co_Passes (c u d h l:Nat) (lev tiers k0 k1 k2 k3 k4 k5 k6 thr ep:Int) (x:Int):Tri prog 179 #[.pointer (some ⟨c,0,none⟩),.int .i64 x] [var c [.pointer (some ⟨u,0,none⟩),.pointer (some ⟨d,0,none⟩),.int .i64 lev,.int .i64 tiers,.int .i64 k0,.int .i64 k1,.int .i64 k2,.int .i64 k3,.int .i64 k4,.int .i64 k5,.int .i64 k6,.pointer (some ⟨h,0,none⟩),.pointer (some ⟨l,0,none⟩),.int .i64 thr,.int .i64 ep] 172] [] (fun v L'=>v=.bool (Sh.passes x thr)∧L'=[]):=by
 refine Tri.en func179 H ntmps179 H fun w0=>J.co 8 H<|O.l (Lo.ca call44 (co_Threshold c u d h l lev tiers k0 k1 k2 k3 k4 k5 k6 thr ep) [] H H (.ro 0 H .nil)) H ?_
 rintro _ _ ⟨_,⟨rfl,rfl⟩,rfl⟩
 refine O.l (Lo.ca call262 (lv_Passes x thr) [] H H .nil) H ?_
 rintro _ _ ⟨_,⟨rfl,rfl⟩,rfl⟩
 refine O.oc 2 H ?_
 exact J.r0 H H ⟨H,H⟩
theorem co_Saw (c u d h l:Nat) (lev tiers k0 k1 k2 k3 k4 k5 k6 thr ep:Int) (hl:List Int) (x:Int) (hn:hl.length=128) (hv0:0≤lev) (hv1:lev≤128):Tri prog 81 #[.pointer (some ⟨c,0,none⟩),.int .i64 x] [] [var c [.pointer (some ⟨u,0,none⟩),.pointer (some ⟨d,0,none⟩),.int .i64 lev,.int .i64 tiers,.int .i64 k0,.int .i64 k1,.int .i64 k2,.int .i64 k3,.int .i64 k4,.int .i64 k5,.int .i64 k6,.pointer (some ⟨h,0,none⟩),.pointer (some ⟨l,0,none⟩),.int .i64 thr,.int .i64 ep] 172,var h ([Value.int .i64 lev]++hl.map (Value.int .i64)) 302] (fun v L'=>∃ l2:List Int,v=.bool (Nd.hasL lev x)∧l2.length=128∧L'=[var c [.pointer (some ⟨u,0,none⟩),.pointer (some ⟨d,0,none⟩),.int .i64 lev,.int .i64 tiers,.int .i64 k0,.int .i64 k1,.int .i64 k2,.int .i64 k3,.int .i64 k4,.int .i64 k5,.int .i64 k6,.pointer (some ⟨h,0,none⟩),.pointer (some ⟨l,0,none⟩),.int .i64 thr,.int .i64 ep] 172,var h ([Value.int .i64 lev]++l2.map (Value.int .i64)) 302]):=by
 refine Tri.en func81 H ntmps81 H fun w0=>J.co 7 H<|O.l (Lo.ca call173 (co_made c u d h l lev tiers k0 k1 k2 k3 k4 k5 k6 thr ep) [] H H (.own 0 H H .nil)) H ?_
 rintro _ _ ⟨_,⟨rfl,rfl⟩,rfl⟩
 refine O.oo 4 H<|O.gz (Qt.lv 0 A169 H H H) H H<|O.oo 1 H<|O.gy (Lo.ca call178 (hi_Count h lev hl x hn hv0 hv1) [1] H H .nil) H H ?_
 rintro _ _ ⟨_,⟨l2,rfl,hn3,rfl⟩,rfl⟩
 have hn:=hn3
 refine O.oc 3 H ?_
 exact J.r1 [1,0] H H H ⟨_,H,hn,H⟩
theorem co_Waited (c u d h l:Nat) (lev tiers k0 k1 k2 k3 k4 k5 k6 thr ep:Int) (lm ls lw x:Int):Tri prog 188 #[.pointer (some ⟨c,0,none⟩),.int .i64 x] [] [var c [.pointer (some ⟨u,0,none⟩),.pointer (some ⟨d,0,none⟩),.int .i64 lev,.int .i64 tiers,.int .i64 k0,.int .i64 k1,.int .i64 k2,.int .i64 k3,.int .i64 k4,.int .i64 k5,.int .i64 k6,.pointer (some ⟨h,0,none⟩),.pointer (some ⟨l,0,none⟩),.int .i64 thr,.int .i64 ep] 172,var l [.int .i64 lm,.int .i64 ls,.int .i64 lw] 311] (fun v L'=>v=.tuple #[]∧∃ a b e:Int,L'=[var c [.pointer (some ⟨u,0,none⟩),.pointer (some ⟨d,0,none⟩),.int .i64 lev,.int .i64 tiers,.int .i64 k0,.int .i64 k1,.int .i64 k2,.int .i64 k3,.int .i64 k4,.int .i64 k5,.int .i64 k6,.pointer (some ⟨h,0,none⟩),.pointer (some ⟨l,0,none⟩),.int .i64 thr,.int .i64 ep] 172,var l [.int .i64 a,.int .i64 b,.int .i64 e] 311]):=by
 refine Tri.en func188 H ntmps188 H fun w0=>J.co 3 H<|O.l (Lo.ca call173 (co_made c u d h l lev tiers k0 k1 k2 k3 k4 k5 k6 thr ep) [] H H (.own 0 H H .nil)) H ?_
 rintro _ _ ⟨_,⟨rfl,rfl⟩,rfl⟩
 refine O.oo 6 H<|O.q (Qt.lv 0 isAgg170 H H H) H<|O.oo 1 H<|O.l (Lo.ca call269 (ld_Wait l lm ls lw x) [1] H H .nil) H ?_
 rintro _ _ ⟨_,⟨rfl,n2,n3,n4,rfl⟩,rfl⟩
 refine O.nil ?_
 exact J.dn [] [1,0] H trivial H ⟨H,_,_,_,H⟩
theorem co_later (c u d h l:Nat) (lev tiers k0 k1 k2 k3 k4 k5 k6 thr ep:Int) (he0:0≤ep) (he1:ep≤4294967295):Tri prog 216 #[.pointer (some ⟨c,0,none⟩)] [] [var c [.pointer (some ⟨u,0,none⟩),.pointer (some ⟨d,0,none⟩),.int .i64 lev,.int .i64 tiers,.int .i64 k0,.int .i64 k1,.int .i64 k2,.int .i64 k3,.int .i64 k4,.int .i64 k5,.int .i64 k6,.pointer (some ⟨h,0,none⟩),.pointer (some ⟨l,0,none⟩),.int .i64 thr,.int .i64 ep] 172] (fun v L'=>v=.tuple #[]∧L'=[var c [.pointer (some ⟨u,0,none⟩),.pointer (some ⟨d,0,none⟩),.int .i64 lev,.int .i64 tiers,.int .i64 k0,.int .i64 k1,.int .i64 k2,.int .i64 k3,.int .i64 k4,.int .i64 k5,.int .i64 k6,.pointer (some ⟨h,0,none⟩),.pointer (some ⟨l,0,none⟩),.int .i64 thr,.int .i64 (Sh.keep (ep+1) 4294967295)] 172]):=by
 refine Tri.en func216 H ntmps216 H fun w0=>J.co 5 H<|O.q (Qt.lv 0 A3 H H H) H<|O.p (Pu.add' H H (by omega)) H<|O.l (Lo.ca C199 (bd_Keep (ep+1) 4294967295) [] H H .nil) H ?_
 rintro _ _ ⟨_,⟨rfl,rfl⟩,rfl⟩
 refine O.oo 2 H<|O.l0 (Lo.st 0 Z3 H H H H H H H) ?_
 rintro _ _ rfl
 refine O.nil ?_
 exact J.dn [] [0] H trivial H ⟨H,H⟩
theorem co_fresh (c u d h l:Nat) (lev tiers k0 k1 k2 k3 k4 k5 k6 thr ep:Int) (hl:List Int) (lm ls lw:Int) (hn:hl.length=128):Tri prog 214 #[.pointer (some ⟨c,0,none⟩)] [] [var c [.pointer (some ⟨u,0,none⟩),.pointer (some ⟨d,0,none⟩),.int .i64 lev,.int .i64 tiers,.int .i64 k0,.int .i64 k1,.int .i64 k2,.int .i64 k3,.int .i64 k4,.int .i64 k5,.int .i64 k6,.pointer (some ⟨h,0,none⟩),.pointer (some ⟨l,0,none⟩),.int .i64 thr,.int .i64 ep] 172,var h ([Value.int .i64 lev]++hl.map (Value.int .i64)) 302,var l [.int .i64 lm,.int .i64 ls,.int .i64 lw] 311] (fun v L'=>v=.tuple #[]∧L'=[var c [.pointer (some ⟨u,0,none⟩),.pointer (some ⟨d,0,none⟩),.int .i64 lev,.int .i64 tiers,.int .i64 k0,.int .i64 k1,.int .i64 k2,.int .i64 k3,.int .i64 k4,.int .i64 k5,.int .i64 k6,.pointer (some ⟨h,0,none⟩),.pointer (some ⟨l,0,none⟩),.int .i64 thr,.int .i64 ep] 172,var h ([Value.int .i64 lev]++(List.replicate 128 (0:Int)).map (Value.int .i64)) 302,var l [.int .i64 0,.int .i64 0,.int .i64 0] 311]):=by
 refine Tri.en func214 H ntmps214 H fun w0=>J.co 5 H<|O.q (Qt.lv 0 A169 H H H) H<|O.l (Lo.ca call292 (hi_Clear h lev hl hn) [1] H H .nil) H ?_
 rintro _ _ ⟨_,⟨rfl,rfl⟩,rfl⟩
 refine O.oo 5 H<|O.q (Qt.lv 1 isAgg170 H H H) H<|O.l (Lo.ca call293 (ld_Clear l lm ls lw) [2] H H .nil) H ?_
 rintro _ _ ⟨_,⟨rfl,rfl⟩,rfl⟩
 refine O.nil ?_
 exact J.dn [] [2,1,0] H trivial H ⟨H,H⟩
theorem co_Restart (c u d h l:Nat) (lev tiers k0 k1 k2 k3 k4 k5 k6 thr ep:Int) (way held tier dheld lm ls lw:Int) (hl:List Int) (hn:hl.length=128) (he0:0≤ep) (he1:ep≤4294967295):Tri prog 113 #[.pointer (some ⟨c,0,none⟩)] [] [var c [.pointer (some ⟨u,0,none⟩),.pointer (some ⟨d,0,none⟩),.int .i64 lev,.int .i64 tiers,.int .i64 k0,.int .i64 k1,.int .i64 k2,.int .i64 k3,.int .i64 k4,.int .i64 k5,.int .i64 k6,.pointer (some ⟨h,0,none⟩),.pointer (some ⟨l,0,none⟩),.int .i64 thr,.int .i64 ep] 172,var u [.int .i64 way,.int .i64 held] 309,var d [.bool true,.int .i64 tiers,.int .i64 tier,.int .i64 dheld] 296,var h ([Value.int .i64 lev]++hl.map (Value.int .i64)) 302,var l [.int .i64 lm,.int .i64 ls,.int .i64 lw] 311] (fun v L'=>v=.tuple #[]∧L'=[var c [.pointer (some ⟨u,0,none⟩),.pointer (some ⟨d,0,none⟩),.int .i64 lev,.int .i64 tiers,.int .i64 k0,.int .i64 k1,.int .i64 k2,.int .i64 k3,.int .i64 k4,.int .i64 k5,.int .i64 k6,.pointer (some ⟨h,0,none⟩),.pointer (some ⟨l,0,none⟩),.int .i64 lev,.int .i64 (Sh.keep (ep+1) 4294967295)] 172,var u [.int .i64 0,.int .i64 0] 309,var d [.bool true,.int .i64 tiers,.int .i64 tiers,.int .i64 32] 296,var h ([Value.int .i64 lev]++(List.replicate 128 (0:Int)).map (Value.int .i64)) 302,var l [.int .i64 0,.int .i64 0,.int .i64 0] 311]):=by
 refine Tri.en func113 H ntmps113 H fun w0=>J.co 4 H<|O.l (Lo.ca call173 (co_made c u d h l lev tiers k0 k1 k2 k3 k4 k5 k6 thr ep) [] H H (.own 0 H H .nil)) H ?_
 rintro _ _ ⟨_,⟨rfl,rfl⟩,rfl⟩
 refine O.oo 10 H<|O.q (Qt.lv 0 A3 H H H) H<|O.oo 2 H<|O.l0 (Lo.st 0 Z3 H H H H H H H) ?_
 rintro _ _ rfl
 refine O.oo 4 H<|O.l (Lo.ca call216 (co_later c u d h l lev tiers k0 k1 k2 k3 k4 k5 k6 lev ep he0 he1) [0] H H .nil) H ?_
 rintro _ _ ⟨_,⟨rfl,rfl⟩,rfl⟩
 refine O.oo 6 H<|O.q (Qt.lv 0 isAgg167 H H H) H<|O.l (Lo.ca call217 (tu_Clear u way held) [1] H H .nil) H ?_
 rintro _ _ ⟨_,⟨rfl,rfl⟩,rfl⟩
 refine O.oo 6 H<|O.q (Qt.lv 1 isAgg168 H H H) H<|O.l (Lo.ca call218 (di_Clear d tiers tier dheld) [2] H H .nil) H ?_
 rintro _ _ ⟨_,⟨rfl,rfl⟩,rfl⟩
 refine O.oo 3 H<|O.l (Lo.ca call214 (co_fresh c u d h l lev tiers k0 k1 k2 k3 k4 k5 k6 lev (Sh.keep (ep+1) 4294967295) hl lm ls lw hn) [2,3,4] H H .nil) H ?_
 rintro _ _ ⟨_,⟨rfl,rfl⟩,rfl⟩
 refine O.nil ?_
 exact J.dn [] [0,4,3,1,2] H trivial H ⟨H,H⟩
def sumNx (lev:Int) (vs:List (List Value)) (x:List Value):Prop:=∃ s:Int,x=[.int .i64 (vs.length:Int),.int .i64 s]∧(vs.length:Int)≤lev∧0≤s∧s≤2147483647
def sumFull (lev:Int) (vs:List (List Value)):Prop:=lev < (vs.length:Int)
theorem it_sums (gv h:Nat) (lev:Int) (hl:List Int) (hn:hl.length=128) (hv0:0≤lev) (hv1:lev≤128):ItN prog 387 #[.pointer (some ⟨gv,0,none⟩)] [var gv [.pointer (some ⟨h,0,none⟩)] 169,var h ([Value.int .i64 lev]++hl.map (Value.int .i64)) 302] (sumNx lev) (sumFull lev):=by
  refine ItN.enter (lb:=[.pointer (some ⟨gv,0,none⟩)]) (body:=_) 25 func387 rfl ntmps387 rfl (by rfl) ?_
  intro l mm X Z φ LL ψ LX Rx W y0 hro hy h0 R0 hR
  refine ⟨var gv [.pointer (some ⟨h,0,none⟩)] 169 :: var h ([Value.int .i64 lev]++hl.map (Value.int .i64)) 302 :: Rx,fun A hA=>hro A (by simpa using hA),?_⟩
  refine JI.seq ?_
  refine JI.seq ?_
  refine JI.region ?_
  refine OI.q (Qt.ld rfl (Cel.roVar 0 rfl) (o:=0) (off:=0) rfl (Cut.one isAgg169 rfl)) rfl ?_
  refine OI.p (Pu.someEq underlying169 rfl) rfl ?_
  refine OI.nil ?_
  refine JI.condF rfl rfl ?_
  refine JI.skip ?_
  refine JI.seq ?_
  refine JI.region ?_
  refine OI.p (Pu.assign rfl) rfl ?_
  refine OI.nil ?_
  refine JI.seq ?_
  refine JI.region ?_
  refine OI.p (Pu.assign rfl) rfl ?_
  refine OI.nil ?_
  refine JI.block ?_
  refine JI.loop (X:=Int×List (List Value)×X) (fun ξ=>φ ξ.2.1 ξ.2.2∧(ξ.2.1.length:Int)≤lev+1∧0≤ξ.1∧ξ.1≤2147483647) (fun ξ=>[(0,.func (.yield l) #[] #[]),(1,.pointer (some ⟨gv,0,none⟩)),(3,.int .i64 ξ.1),(4,.int .i64 (ξ.2.1.length:Int))]) (fun ξ=>LL ξ.2.2) (fun ξ=>(lev+1-(ξ.2.1.length:Int)).toNat) ⟨0,[],y0⟩ ⟨h0,by simp;omega,Int.le_refl 0,(show (0:Int)≤2147483647 from by decide)⟩ ⟨rfl,rfl,rfl,rfl,trivial⟩ (List.range (LL y0).length) List.nodup_range (sel_range _) ?_
  rintro ⟨s,vs,y⟩ ⟨hφ,hk,hb0,hb1⟩
  dsimp only at hφ hk hb0 hb1
  refine JI.seq ?_
  refine JI.seq ?_
  refine JI.region ?_
  refine OI.p (Pu.move rfl) rfl ?_
  refine OI.q (Qt.ld rfl (Cel.roVar 0 rfl) (o:=0) (off:=0) rfl (Cut.one isAgg169 rfl)) rfl ?_
  refine OI.p (Pu.nilCheck rfl) rfl ?_
  refine OI.p (Pu.fieldAddr runUnderlying302 rfl sizeOf3 rfl rfl rfl) rfl ?_
  refine OI.q (Qt.ld rfl (Cel.roVar 1 rfl) (o:=0) (off:=0) rfl (Cut.one isAgg3 rfl)) rfl ?_
  refine OI.p (Pu.leq rfl rfl) rfl ?_
  refine OI.nil ?_
  refine JI.cond rfl (fun h_=>?_) (fun h_=>?_)
  · have p:(vs.length:Int)≤lev:=of_decide_eq_true h_
    refine JI.skip ?_
    refine JI.seq ?_
    refine JI.block ?_
    refine JI.seq ?_
    refine JI.seq ?_
    refine JI.region ?_
    refine OI.p (Pu.move rfl) rfl ?_
    refine OI.p (Pu.move rfl) rfl ?_
    refine OI.p (Pu.move rfl) rfl ?_
    refine OI.yieldN (l:=l) (vs:=[.int .i64 (vs.length:Int),.int .i64 s]) [] (LL y) (K:=fun b_ L'=>match b_ with|true=>∃ y',φ (vs++[[.int .i64 (vs.length:Int),.int .i64 s]]) y'∧L'=LL y'|false=>∃ z,ψ z∧L'=LX z) rfl rfl rfl rfl rfl (fun ok W1 hs1 hs2=>?_) rfl ?_
    · have hall:=Cx.roAll ok hs1
      refine YieldAt.weak (hy _ y _ W1 hφ ⟨s,rfl,p,hb0,hb1⟩ (fun A hA=>hall A (by simpa using hA)) hs2) ?_
      rintro e W' (⟨rfl,y',hy',hs'⟩|⟨rfl,z,hz,hs'⟩)
      · exact ⟨true,_,rfl,⟨y',hy',rfl⟩,hs'⟩
      · exact ⟨false,_,rfl,⟨z,hz,rfl⟩,hs'⟩
    · rintro b_ L' hK
      cases b_
      · obtain ⟨z,hz,rfl⟩:=hK
        refine OI.p (Pu.not rfl) rfl ?_
        refine OI.nil ?_
        refine JI.condT rfl rfl ?_
        exact JI.ret fun ok a w ha hs=>hR _ _ _ (.inr rfl) ha.defers (.inr ⟨z,hz,by simpa using hs⟩)
      · obtain ⟨y',hy',rfl⟩:=hK
        refine OI.p (Pu.not rfl) rfl ?_
        refine OI.nil ?_
        refine JI.condF rfl rfl ?_
        refine JI.skip ?_
        refine JI.region ?_
        refine OI.p (Pu.move rfl) rfl ?_
        refine OI.q (Qt.ld rfl (Cel.roVar 0 rfl) (o:=0) (off:=0) rfl (Cut.one isAgg169 rfl)) rfl ?_
        refine OI.p (Pu.move rfl) rfl ?_
        refine OI.l (Lo.callQ call388 (hi_Many h lev hl (vs.length:Int) hn hv0 hv1) (fun v L' ⟨_,_,h2⟩=>h2) rfl (.ro 1 rfl .nil)) rfl ?_
        rintro _ _ ⟨⟨_,n,rfl,rfl⟩,rfl⟩
        refine OI.l (Lo.callQ call288 (bd_Add s n) (fun v L' ⟨_,h2⟩=>h2) rfl .nil) rfl ?_
        rintro _ _ ⟨⟨_,rfl,rfl⟩,rfl⟩
        refine OI.p (Pu.assign rfl) rfl ?_
        refine OI.nil ?_
        refine JI.blk ?_
        refine JI.region ?_
        refine OI.p (Pu.move rfl) rfl ?_
        refine OI.p (Pu.add' rfl rfl (by dsimp only;omega)) rfl ?_
        refine OI.p (Pu.assign rfl) rfl ?_
        refine OI.nil ?_
        have hlen:(vs++[[Value.int .i64 (vs.length:Int),.int .i64 s]]).length=vs.length+1:=by simp
        refine JI.lp (Nd.addC s n,vs++[[.int .i64 (vs.length:Int),.int .i64 s]],y') ⟨hy',by rw [hlen];omega,Sh.keep_bnd _ (by decide)⟩ (by dsimp only;rw [hlen];omega) ⟨rfl,rfl,rfl,eqi (by dsimp only;rw [hlen];omega),trivial⟩ (List.range ([]++LL y').length) List.nodup_range (sel_range _)
  · have p:¬(vs.length:Int)≤lev:=of_decide_eq_false h_
    refine JI.exit _ rfl ?_
    exact JI.done fun ok a w ha hs=>hR _ _ _ (.inl rfl) ha.defers (.inl ⟨vs,y,(show lev < (vs.length:Int) from by omega),hφ,hs⟩)
theorem hi_sums (h:Nat):Tri prog 373 #[.pointer (some ⟨h,0,none⟩)] [] [] (fun v L'=>∃ gv,v=.func (.func 387) #[] #[.pointer (some ⟨gv,0,none⟩)]∧L'=[var gv [.pointer (some ⟨h,0,none⟩)] 169]):=by
 refine Tri.en func373 H ntmps373 H fun w0=>J.co 2 H<|O.l (Lo.bx H H) H ?_
 rintro _ _ ⟨g1,rfl,rfl⟩
 refine O.oo 4 H<|O.p (Pu.makeFunc [.pointer (some ⟨g1,0,none⟩)] H) H<|O.oc 2 H ?_
 exact J.r1 [0] H H H ⟨g1,H,H⟩
theorem hi_Below (h:Nat) (lev:Int) (hl:List Int) (x:Int) (hn:hl.length=128) (hv0:0≤lev) (hv1:lev≤128):Tri prog 334 #[.pointer (some ⟨h,0,none⟩),.int .i64 x] [var h ([Value.int .i64 lev]++hl.map (Value.int .i64)) 302] [] (fun v L'=>∃ n:Int,v=.int .i64 n∧(0≤n∧n≤2147483647)∧L'=[]):=by
 refine Tri.enterI (args:=[.pointer (some ⟨h,0,none⟩),.int .i64 x]) (body:=_) 17 func334 rfl ntmps334 rfl ?_
 intro w0
 refine JI.seq ?_
 refine JI.region ?_
 refine OI.l (Lo.box [.int .i64 x] rfl rfl) rfl ?_
 rintro _ _ ⟨g1,rfl,rfl⟩
 refine OI.p (Pu.assign rfl) rfl ?_
 refine OI.nil ?_
 refine JI.seq ?_
 refine JI.region ?_
 refine OI.l (Lo.alloc [.int .i64 0] (by exact zeroValue3) rfl) rfl ?_
 rintro _ _ ⟨g2,rfl,rfl⟩
 refine OI.l0 (Lo.store 0 (vs:=[.int .i64 0]) [.int .i64 0] rfl rfl rfl (by exact sizeOf3) rfl rfl rfl rfl rfl) ?_
 rintro _ _ rfl
 refine OI.nil ?_
 refine JI.seq ?_
 refine JI.seq ?_
 refine JI.region ?_
 refine OI.p (Pu.move rfl) rfl ?_
 refine OI.l (Lo.call [.pointer (some ⟨h,0,none⟩)] (by exact call373) rfl (hi_sums h) [] [0,1] (by decide) rfl [var g2 [.int .i64 0] 3,var g1 [.int .i64 x] 3] rfl RoOk.nil) rfl ?_
 rintro _ _ ⟨_,⟨g3,rfl,rfl⟩,rfl⟩
 refine OI.nil ?_
 refine JI.block ?_
 refine JI.trim [(3,.pointer (some ⟨g1,0,none⟩)),(4,.int .i64 0),(5,.pointer (some ⟨g2,0,none⟩)),(9,.func (.func 387) #[] #[.pointer (some ⟨g3,0,none⟩)])] ⟨rfl,rfl,rfl,rfl,trivial⟩ ?_
 refine JI.rangeO (gf:=387) (X:=Int) (Z:=Int) (fun vs ξ=>0≤ξ∧ξ≤2147483647) (fun ξ=>[var g1 [.int .i64 x] 3,var g2 [.int .i64 ξ] 3]) (fun x ξ=>x=.exit 0∧(0≤ξ∧ξ≤2147483647)) (fun ξ=>[var g1 [.int .i64 x] 3,var g2 [.int .i64 ξ] 3]) rfl rfl (fun _ _=>by rfl) (it_sums g3 h lev hl hn hv0 hv1) (fun vs x hx_=>by obtain ⟨_,rfl,_⟩:=hx_;rfl) rfl 0 ⟨by decide,by decide⟩ [2,1] [0] (by decide) rfl rfl (fun A hA=>by simp only [List.mem_cons,List.not_mem_nil,or_false] at hA;rcases hA with rfl|rfl;exact .inr (by simp [LK.sel]);exact .inl (by simp)) (fun W1 M1 l5 D5 rec5 vs5 n x5 hS5 hT5 hy5 hx5=>?_) (fun l5 D5 r5 vs5 n hf5 hy5=>?_) (fun l5 D5 r5 x5 z hy5=>?_)
 ·
  obtain ⟨e6,rfl,ht_e6,h0_e6,h1_e6⟩:=hx5
  have hnb:0≤n∧n≤2147483647:=hy5
  show JI _ _ _ ([(11,.int .i64 e6),(10,.int .i64 (vs5.length:Int))]++[(3,.pointer (some ⟨g1,0,none⟩)),(4,.int .i64 0),(5,.pointer (some ⟨g2,0,none⟩)),(9,.func (.func 387) #[] #[.pointer (some ⟨g3,0,none⟩)])]) [blk l5 (.loop (rec5 .ready none)),blk D5 (.deferred (some [])),var g1 [.int .i64 x] 3,var g2 [.int .i64 n] 3]
  refine JI.seq ?_
  refine JI.region ?_
  refine OI.p (Pu.assign rfl) rfl ?_
  refine OI.nil ?_
  refine JI.region ?_
  refine OI.p (Pu.assign rfl) rfl ?_
  refine OI.nil ?_
  refine JI.begin (hS5 _ _) ?_
  refine JI.block ?_
  refine JI.seq ?_
  refine JI.seq ?_
  refine JI.region ?_
  refine OI.p (Pu.move rfl) rfl ?_
  refine OI.q (Qt.ld rfl (Cel.var 2 rfl) (o:=0) (off:=0) rfl (Cut.one isAgg3 rfl)) rfl ?_
  refine OI.p (Pu.gtr rfl rfl) rfl ?_
  refine OI.nil ?_
  refine JI.cond rfl (fun h7=>?_) (fun h7=>?_)
  ·
   have p8:=of_decide_eq_true h7
   exact RE.brk n (show (Code.exit 0=.exit 0)∧(0≤n∧n≤2147483647) from ⟨rfl,hnb⟩) rfl rfl [0,1,2,3] (by decide) rfl (fun _=>hT5 .ready none .done _)
  ·
   have p9:=of_decide_eq_false h7
   refine JI.skip ?_
   refine JI.region ?_
   refine OI.p (Pu.move rfl) rfl ?_
   refine OI.l0 (Lo.store 3 (vs:=[.int .i64 e6]) [.int .i64 e6] rfl rfl rfl (by exact sizeOf3) rfl rfl rfl rfl rfl) ?_
   rintro _ _ rfl
   refine OI.nil ?_
   refine JI.blk ?_
   exact RE.nextS (r:={ rec5 .ready none with state:=.busy }) e6 (show 0≤e6∧e6≤2147483647 from ⟨h0_e6,h1_e6⟩) rfl [0,1,2,3] (by decide) rfl (hT5 .ready none .ready none)
 ·
  have hnb:0≤n∧n≤2147483647:=hy5
  show JI _ _ _ [(3,.pointer (some ⟨g1,0,none⟩)),(4,.int .i64 0),(5,.pointer (some ⟨g2,0,none⟩)),(9,.func (.func 387) #[] #[.pointer (some ⟨g3,0,none⟩)])] [blk l5 (.loop r5),blk D5 (.deferred (some [])),var g1 [.int .i64 x] 3,var g2 [.int .i64 n] 3]
  refine JI.blk ?_
  refine JI.seq ?_
  refine JI.region ?_
  refine OI.q (Qt.ld rfl (Cel.var 3 rfl) (o:=0) (off:=0) rfl (Cut.one isAgg3 rfl)) rfl ?_
  refine OI.p (Pu.assign rfl) rfl ?_
  refine OI.nil ?_
  exact JI.retM (j:=1) rfl rfl rfl (Fin.ret (rs:=[.tmp 4]) rfl [_] ⟨rfl,trivial⟩ [] (by decide) [] rfl ⟨_,rfl,⟨by omega,by omega⟩,rfl⟩)
 ·
  obtain ⟨rfl,hnb⟩:=hy5
  show JI _ _ _ [(3,.pointer (some ⟨g1,0,none⟩)),(4,.int .i64 0),(5,.pointer (some ⟨g2,0,none⟩)),(9,.func (.func 387) #[] #[.pointer (some ⟨g3,0,none⟩)])] [blk l5 (.loop r5),blk D5 (.deferred (some [])),var g1 [.int .i64 x] 3,var g2 [.int .i64 z] 3]
  refine JI.exit _ rfl ?_
  refine JI.seq ?_
  refine JI.region ?_
  refine OI.q (Qt.ld rfl (Cel.var 3 rfl) (o:=0) (off:=0) rfl (Cut.one isAgg3 rfl)) rfl ?_
  refine OI.p (Pu.assign rfl) rfl ?_
  refine OI.nil ?_
  exact JI.retM (j:=1) rfl rfl rfl (Fin.ret (rs:=[.tmp 4]) rfl [_] ⟨rfl,trivial⟩ [] (by decide) [] rfl ⟨_,rfl,⟨by omega,by omega⟩,rfl⟩)
theorem hi_Total (h:Nat) (lev:Int) (hl:List Int) (hn:hl.length=128) (hv0:0≤lev) (hv1:lev≤128):Tri prog 336 #[.pointer (some ⟨h,0,none⟩)] [var h ([Value.int .i64 lev]++hl.map (Value.int .i64)) 302] [] (fun v L'=>∃ n:Int,v=.int .i64 n∧(0≤n∧n≤2147483647)∧L'=[]):=by
 refine Tri.en func336 H ntmps336 H fun w0=>J.co 7 H<|O.l (Lo.ca call334 (hi_Below h lev hl 128 hn hv0 hv1) [] H H (.ro 0 H .nil)) H ?_
 rintro _ _ ⟨_,⟨n1,rfl,hb2,rfl⟩,rfl⟩
 have hbel:=hb2
 refine O.oc 2 H ?_
 exact J.r0 H H ⟨_,H,hbel,H⟩
theorem bd_pct (a b:Int) (h1:0≤a∧a≤2147483647) (h2:0≤b∧b≤2147483647):Tri prog 374 #[.int .i64 a,.int .i64 b] [] [] (fun v L'=>v=.int .i64 ((a*b+100-1) / 100)∧L'=[]):=by
 have hm:=Nd.mul_bnd h1 h2
 refine Tri.en func374 H ntmps374 H fun w0=>J.co 8 H<|O.p (Pu.mul' H H (by omega)) H<|O.p (Pu.add' H H (by omega)) H<|O.p (Pu.sub' H H (by omega)) H<|O.p (Pu.quo' H H (by omega) (by omega) (by omega)) H<|O.oc 2 H ?_
 exact J.r0 H H ⟨H,H⟩
theorem bd_countsP (a b:Int):Tri prog 226 #[.int .i64 a,.int .i64 b,.func (.func 374) #[] #[]] [] [] (fun v L'=>v=.int .i64 (Nd.pct a b)∧L'=[]):=by
 refine Tri.en func226 H ntmps226 H fun w0=>J.co 8 H<|O.l (Lo.ca C199 (bd_Keep a 2147483647) [] H H .nil) H ?_
 rintro _ _ ⟨_,⟨rfl,rfl⟩,rfl⟩
 refine O.oo 1 H<|O.l (Lo.ca C199 (bd_Keep b 2147483647) [] H H .nil) H ?_
 rintro _ _ ⟨_,⟨rfl,rfl⟩,rfl⟩
 refine O.l (Lo.cv call374 H H (bd_pct (Sh.keep a 2147483647) (Sh.keep b 2147483647) (Sh.keep_bnd _ (by decide)) (Sh.keep_bnd _ (by decide))) [] H .nil) H ?_
 rintro _ _ ⟨_,⟨rfl,rfl⟩,rfl⟩
 refine O.l (Lo.ca C199 (bd_Keep (((Sh.keep a 2147483647)*(Sh.keep b 2147483647)+100-1) / 100) 2147483647) [] H H .nil) H ?_
 rintro _ _ ⟨_,⟨rfl,rfl⟩,rfl⟩
 refine O.oc 2 H ?_
 exact J.r0 H H ⟨H,H⟩
theorem bd_Part (a b:Int):Tri prog 335 #[.int .i64 a,.int .i64 b] [] [] (fun v L'=>v=.int .i64 (Nd.pct a (Sh.keep b 100))∧L'=[]):=by
 refine Tri.en func335 H ntmps335 H fun w0=>J.co 7 H<|O.l (Lo.ca C199 (bd_Keep b 100) [] H H .nil) H ?_
 rintro _ _ ⟨_,⟨rfl,rfl⟩,rfl⟩
 refine O.oo 6 H<|O.l (Lo.ca call226 (bd_countsP a (Sh.keep b 100)) [] H H .nil) H ?_
 rintro _ _ ⟨_,⟨rfl,rfl⟩,rfl⟩
 refine O.oc 2 H ?_
 exact J.r0 H H ⟨H,H⟩
theorem pu_Later (to ver k0 k1 k2 k3 k4 k5 k6 x:Int):Tri prog 99 #[.agg #[.int .i64 to,.int .i64 ver,.int .i64 k0,.int .i64 k1,.int .i64 k2,.int .i64 k3,.int .i64 k4,.int .i64 k5,.int .i64 k6],.int .i64 x] [] [] (fun v L'=>v=.bool (decide (x < ver))∧L'=[]):=by
 refine Tri.en func99 H ntmps99 H fun w0=>J.co 2 H<|O.l (Lo.bx H H) H ?_
 rintro _ _ ⟨g1,rfl,rfl⟩
 refine O.oo 5 H<|O.q (Qt.lv 0 A3 H H H) H<|O.oc 4 H ?_
 exact J.r0 H H ⟨H,H⟩
theorem nd_bit (b:Bool):Tri prog 95 #[.bool b] [] [] (fun v L'=>v=.int .i64 (if b=true then 1 else 0)∧L'=[]):=by
 refine Tri.en func95 H ntmps95 H fun w0=>J.cc 9 H ?_
 refine J.cond H (fun h1=>?_) (fun h1=>?_)
 ·
  subst h1
  refine J.cc 4 H ?_
  exact J.r0 H H ⟨by simp [vOf, *],rfl⟩
 subst h1
 refine J.cc 5 H ?_
 exact J.r0 H H ⟨by simp [vOf, *],rfl⟩
theorem jb_New (x:Im):Tri prog 186 #[.agg #[.int .i64 x.id,.int .i64 x.level,.int .i64 x.from_,.int .i64 x.deadline,.int .i64 x.budget,.int .i64 x.since,.int .i64 x.seq]] [] [] (fun v L'=>v=.agg #[.int .i64 x.id,.int .i64 x.level,.int .i64 x.from_,.int .i64 x.deadline,.int .i64 x.budget,.int .i64 x.since,.int .i64 x.seq,.int .i64 1,Value.slice none 0 0]∧L'=[]):=by
 refine Tri.en func186 H ntmps186 H fun w0=>J.co 2 H<|O.l (Lo.bx H H) H ?_
 rintro _ _ ⟨g1,rfl,rfl⟩
 refine O.l (Lo.al Y68 H) H ?_
 rintro _ _ ⟨g2,rfl,rfl⟩
 refine O.oo 3 H<|O.q (Qt.lva 1 A66 Z66 H H H) H<|O.p (Pu.build [(0,.agg #[.int .i64 x.id,.int .i64 x.level,.int .i64 x.from_,.int .i64 x.deadline,.int .i64 x.budget,.int .i64 x.since,.int .i64 x.seq]),(1,.int .i64 1)] [.int .i64 x.id,.int .i64 x.level,.int .i64 x.from_,.int .i64 x.deadline,.int .i64 x.budget,.int .i64 x.since,.int .i64 x.seq,.int .i64 1,Value.slice none 0 0] #[(0,7),(7,1),(8,1)] U68 Y68 (places68 underlying68) H (by kernel_rfl)) H<|O.l0 (Lo.st 0 Z68 H H H H H H H) ?_
 rintro _ _ rfl
 refine O.nil ?_
 exact J.rn [_] [] H ⟨⟨_,_,0,0,_,H,(Cel.var 0 H),H,(Cut.agg [.int .i64 x.id,.int .i64 x.level,.int .i64 x.from_,.int .i64 x.deadline,.int .i64 x.budget,.int .i64 x.since,.int .i64 x.seq,.int .i64 1,Value.slice none 0 0] A68 Z68 H H)⟩,trivial⟩ H ⟨H,H⟩
theorem jb_Ends (x:Im) (ph:Int) (nv:Value) (now:Int) (hnv:Value.oneCell' nv=true):Tri prog 209 #[.agg #[.int .i64 x.id,.int .i64 x.level,.int .i64 x.from_,.int .i64 x.deadline,.int .i64 x.budget,.int .i64 x.since,.int .i64 x.seq,.int .i64 ph,nv],.int .i64 now] [] [] (fun v L'=>v=.int .i64 (if x.deadline≤now then 6 else 0)∧L'=[]):=by
 refine Tri.en func209 H ntmps209 H fun w0=>J.co 2 H<|O.l (Lo.bx H H) H ?_
 rintro _ _ ⟨g1,rfl,rfl⟩
 refine O.oo 7 H<|O.q (Qt.lv 0 A3 H H H) H<|O.oc 3 H ?_
 refine J.cd H (fun p2=>?_) (fun p2=>?_)
 ·
  refine J.cc 4 H ?_
  exact J.r0 H H ⟨by simp [vOf, *],rfl⟩
 refine J.cc 5 H ?_
 exact J.r0 H H ⟨by simp [vOf, *],rfl⟩
def upNx (f t:Int) (vs:List (List Value)) (x:List Value):Prop:=x=[.int .i64 (f+(vs.length:Int))]∧(f+(vs.length:Int))≤t
def upFull (f t:Int) (vs:List (List Value)):Prop:=t < (f+(vs.length:Int))
theorem it_up (gf gt:Nat) (f t:Int) (hf:0≤f) (ht:t≤128):ItN prog 375 #[.pointer (some ⟨gf,0,none⟩),.pointer (some ⟨gt,0,none⟩)] [var gf [.int .i64 f] 3,var gt [.int .i64 t] 3] (upNx f t) (upFull f t):=by
  refine ItN.enter (lb:=[.pointer (some ⟨gf,0,none⟩),.pointer (some ⟨gt,0,none⟩)]) (body:=_) 16 func375 rfl ntmps375 rfl (by rfl) ?_
  intro l mm X Z φ LL ψ LX Rx W y0 hro hy h0 R0 hR
  refine ⟨var gf [.int .i64 f] 3 :: var gt [.int .i64 t] 3 :: Rx,fun A hA=>hro A (by simpa using hA),?_⟩
  refine JI.seq ?_
  refine JI.region ?_
  refine OI.q (Qt.ld rfl (Cel.roVar 0 rfl) (o:=0) (off:=0) rfl (Cut.one isAgg3 rfl)) rfl ?_
  refine OI.p (Pu.assign rfl) rfl ?_
  refine OI.nil ?_
  refine JI.block ?_
  refine JI.loop (X:=List (List Value)×X) (fun ξ=>φ ξ.1 ξ.2) (fun ξ=>[(0,.func (.yield l) #[] #[]),(2,.pointer (some ⟨gt,0,none⟩)),(4,.int .i64 (f+(ξ.1.length:Int)))]) (fun ξ=>LL ξ.2) (fun ξ=>(t-(f+(ξ.1.length:Int))+1).toNat) ⟨[],y0⟩ h0 ⟨rfl,rfl,eqi (by dsimp only [List.length_nil];omega),trivial⟩ (List.range (LL y0).length) List.nodup_range (sel_range _) ?_
  rintro ⟨vs,y⟩ hφ
  dsimp only at hφ
  refine JI.seq ?_
  refine JI.seq ?_
  refine JI.region ?_
  refine OI.p (Pu.move rfl) rfl ?_
  refine OI.q (Qt.ld rfl (Cel.roVar 1 rfl) (o:=0) (off:=0) rfl (Cut.one isAgg3 rfl)) rfl ?_
  refine OI.p (Pu.leq rfl rfl) rfl ?_
  refine OI.p (Pu.move rfl) rfl ?_
  by_cases p:(f+(vs.length:Int))≤t
  · have hb:decide ((f+(vs.length:Int))≤t)=true:=decide_eq_true p
    refine OI.gp rfl rfl hb rfl (Pu.move rfl) rfl ?_
    refine OI.gp rfl rfl hb rfl (Pu.move rfl) rfl ?_
    refine OI.gyieldN (l:=l) (vs:=[.int .i64 (f+(vs.length:Int))]) [] (LL y) (K:=fun b_ L'=>match b_ with|true=>∃ y',φ (vs++[[.int .i64 (f+(vs.length:Int))]]) y'∧L'=LL y'|false=>∃ z,ψ z∧L'=LX z) rfl rfl hb rfl rfl rfl rfl rfl rfl (fun ok W1 hs1 hs2=>?_) rfl ?_
    · have hall:=Cx.roAll ok hs1
      refine YieldAt.weak (hy _ y _ W1 hφ ⟨rfl,p⟩ (fun A hA=>hall A (by simpa using hA)) hs2) ?_
      rintro e W' (⟨rfl,y',hy',hs'⟩|⟨rfl,z,hz,hs'⟩)
      · exact ⟨true,_,rfl,⟨y',hy',rfl⟩,hs'⟩
      · exact ⟨false,_,rfl,⟨z,hz,rfl⟩,hs'⟩
    · rintro b_ L' hK
      refine OI.p (Pu.pickT rfl hb rfl) rfl ?_
      refine OI.nil ?_
      cases b_
      · obtain ⟨z,hz,rfl⟩:=hK
        refine JI.condF rfl rfl ?_
        refine JI.exit _ rfl ?_
        exact JI.done fun ok a w ha hs=>hR _ _ _ (.inl rfl) ha.defers (.inr ⟨z,hz,by simpa using hs⟩)
      · obtain ⟨y',hy',rfl⟩:=hK
        refine JI.condT rfl rfl ?_
        refine JI.skip ?_
        refine JI.seq ?_
        refine JI.block ?_
        refine JI.skip ?_
        refine JI.blk ?_
        refine JI.region ?_
        refine OI.p (Pu.move rfl) rfl ?_
        refine OI.p (Pu.add' rfl rfl (by dsimp only;omega)) rfl ?_
        refine OI.p (Pu.assign rfl) rfl ?_
        refine OI.nil ?_
        have hlen:(vs++[[Value.int .i64 (f+(vs.length:Int))]]).length=vs.length+1:=by simp
        refine JI.lp (vs++[[.int .i64 (f+(vs.length:Int))]],y') hy' (by dsimp only;rw [hlen];omega) ⟨rfl,rfl,eqi (by dsimp only;rw [hlen];omega),trivial⟩ (List.range ([]++LL y').length) List.nodup_range (sel_range _)
  · have hb:decide ((f+(vs.length:Int))≤t)=false:=decide_eq_false p
    have hu:boolOf (.bool (decide ((f+(vs.length:Int))≤t)))≠some true:=by rw [hb];simp [boolOf]
    refine OI.gskip rfl rfl hu rfl rfl ?_
    refine OI.gskip rfl rfl hu rfl rfl ?_
    refine OI.gskip rfl rfl hu rfl rfl ?_
    refine OI.p (Pu.pickF rfl hb rfl) rfl ?_
    refine OI.nil ?_
    refine JI.condF rfl rfl ?_
    refine JI.exit _ rfl ?_
    exact JI.done fun ok a w ha hs=>hR _ _ _ (.inl rfl) ha.defers (.inl ⟨vs,y,(show t < (f+(vs.length:Int)) from by omega),hφ,hs⟩)
theorem wk_up (f t:Int):Tri prog 338 #[.int .i64 f,.int .i64 t] [] [] (fun v L'=>∃ gf gt,v=.func (.func 375) #[] #[.pointer (some ⟨gf,0,none⟩),.pointer (some ⟨gt,0,none⟩)]∧L'=[var gf [.int .i64 f] 3,var gt [.int .i64 t] 3]):=by
 refine Tri.en func338 H ntmps338 H fun w0=>J.co 2 H<|O.l (Lo.bx H H) H ?_
 rintro _ _ ⟨g1,rfl,rfl⟩
 refine O.l (Lo.bx H H) H ?_
 rintro _ _ ⟨g2,rfl,rfl⟩
 refine O.oo 4 H<|O.p (Pu.makeFunc [.pointer (some ⟨g1,0,none⟩),.pointer (some ⟨g2,0,none⟩)] H) H<|O.oc 2 H ?_
 exact J.r1 [1,0] H H H ⟨g1,g2,H,H⟩
def dnNx (f t:Int) (vs:List (List Value)) (x:List Value):Prop:=x=[.int .i64 (f-(vs.length:Int))]∧t≤(f-(vs.length:Int))
def dnFull (f t:Int) (vs:List (List Value)):Prop:=(f-(vs.length:Int)) < t
theorem it_dn (gf gt:Nat) (f t:Int) (hf:f≤128) (ht:0≤t):ItN prog 376 #[.pointer (some ⟨gf,0,none⟩),.pointer (some ⟨gt,0,none⟩)] [var gf [.int .i64 f] 3,var gt [.int .i64 t] 3] (dnNx f t) (dnFull f t):=by
  refine ItN.enter (lb:=[.pointer (some ⟨gf,0,none⟩),.pointer (some ⟨gt,0,none⟩)]) (body:=_) 16 func376 rfl ntmps376 rfl (by rfl) ?_
  intro l mm X Z φ LL ψ LX Rx W y0 hro hy h0 R0 hR
  refine ⟨var gf [.int .i64 f] 3 :: var gt [.int .i64 t] 3 :: Rx,fun A hA=>hro A (by simpa using hA),?_⟩
  refine JI.seq ?_
  refine JI.region ?_
  refine OI.q (Qt.ld rfl (Cel.roVar 0 rfl) (o:=0) (off:=0) rfl (Cut.one isAgg3 rfl)) rfl ?_
  refine OI.p (Pu.assign rfl) rfl ?_
  refine OI.nil ?_
  refine JI.block ?_
  refine JI.loop (X:=List (List Value)×X) (fun ξ=>φ ξ.1 ξ.2) (fun ξ=>[(0,.func (.yield l) #[] #[]),(2,.pointer (some ⟨gt,0,none⟩)),(4,.int .i64 (f-(ξ.1.length:Int)))]) (fun ξ=>LL ξ.2) (fun ξ=>(f-(ξ.1.length:Int)-t+1).toNat) ⟨[],y0⟩ h0 ⟨rfl,rfl,eqi (by dsimp only [List.length_nil];omega),trivial⟩ (List.range (LL y0).length) List.nodup_range (sel_range _) ?_
  rintro ⟨vs,y⟩ hφ
  dsimp only at hφ
  refine JI.seq ?_
  refine JI.seq ?_
  refine JI.region ?_
  refine OI.p (Pu.move rfl) rfl ?_
  refine OI.q (Qt.ld rfl (Cel.roVar 1 rfl) (o:=0) (off:=0) rfl (Cut.one isAgg3 rfl)) rfl ?_
  refine OI.p (Pu.geq rfl rfl) rfl ?_
  refine OI.p (Pu.move rfl) rfl ?_
  by_cases p:t≤(f-(vs.length:Int))
  · have hb:decide (t≤(f-(vs.length:Int)))=true:=decide_eq_true p
    refine OI.gp rfl rfl hb rfl (Pu.move rfl) rfl ?_
    refine OI.gp rfl rfl hb rfl (Pu.move rfl) rfl ?_
    refine OI.gyieldN (l:=l) (vs:=[.int .i64 (f-(vs.length:Int))]) [] (LL y) (K:=fun b_ L'=>match b_ with|true=>∃ y',φ (vs++[[.int .i64 (f-(vs.length:Int))]]) y'∧L'=LL y'|false=>∃ z,ψ z∧L'=LX z) rfl rfl hb rfl rfl rfl rfl rfl rfl (fun ok W1 hs1 hs2=>?_) rfl ?_
    · have hall:=Cx.roAll ok hs1
      refine YieldAt.weak (hy _ y _ W1 hφ ⟨rfl,p⟩ (fun A hA=>hall A (by simpa using hA)) hs2) ?_
      rintro e W' (⟨rfl,y',hy',hs'⟩|⟨rfl,z,hz,hs'⟩)
      · exact ⟨true,_,rfl,⟨y',hy',rfl⟩,hs'⟩
      · exact ⟨false,_,rfl,⟨z,hz,rfl⟩,hs'⟩
    · rintro b_ L' hK
      refine OI.p (Pu.pickT rfl hb rfl) rfl ?_
      refine OI.nil ?_
      cases b_
      · obtain ⟨z,hz,rfl⟩:=hK
        refine JI.condF rfl rfl ?_
        refine JI.exit _ rfl ?_
        exact JI.done fun ok a w ha hs=>hR _ _ _ (.inl rfl) ha.defers (.inr ⟨z,hz,by simpa using hs⟩)
      · obtain ⟨y',hy',rfl⟩:=hK
        refine JI.condT rfl rfl ?_
        refine JI.skip ?_
        refine JI.seq ?_
        refine JI.block ?_
        refine JI.skip ?_
        refine JI.blk ?_
        refine JI.region ?_
        refine OI.p (Pu.move rfl) rfl ?_
        refine OI.p (Pu.sub' rfl rfl (by dsimp only;omega)) rfl ?_
        refine OI.p (Pu.assign rfl) rfl ?_
        refine OI.nil ?_
        have hlen:(vs++[[Value.int .i64 (f-(vs.length:Int))]]).length=vs.length+1:=by simp
        refine JI.lp (vs++[[.int .i64 (f-(vs.length:Int))]],y') hy' (by dsimp only;rw [hlen];omega) ⟨rfl,rfl,eqi (by dsimp only;rw [hlen];omega),trivial⟩ (List.range ([]++LL y').length) List.nodup_range (sel_range _)
  · have hb:decide (t≤(f-(vs.length:Int)))=false:=decide_eq_false p
    have hu:boolOf (.bool (decide (t≤(f-(vs.length:Int)))))≠some true:=by rw [hb];simp [boolOf]
    refine OI.gskip rfl rfl hu rfl rfl ?_
    refine OI.gskip rfl rfl hu rfl rfl ?_
    refine OI.gskip rfl rfl hu rfl rfl ?_
    refine OI.p (Pu.pickF rfl hb rfl) rfl ?_
    refine OI.nil ?_
    refine JI.condF rfl rfl ?_
    refine JI.exit _ rfl ?_
    exact JI.done fun ok a w ha hs=>hR _ _ _ (.inl rfl) ha.defers (.inl ⟨vs,y,(show (f-(vs.length:Int)) < t from by omega),hφ,hs⟩)
theorem wk_down (f t:Int):Tri prog 340 #[.int .i64 f,.int .i64 t] [] [] (fun v L'=>∃ gf gt,v=.func (.func 376) #[] #[.pointer (some ⟨gf,0,none⟩),.pointer (some ⟨gt,0,none⟩)]∧L'=[var gf [.int .i64 f] 3,var gt [.int .i64 t] 3]):=by
 refine Tri.en func340 H ntmps340 H fun w0=>J.co 2 H<|O.l (Lo.bx H H) H ?_
 rintro _ _ ⟨g1,rfl,rfl⟩
 refine O.l (Lo.bx H H) H ?_
 rintro _ _ ⟨g2,rfl,rfl⟩
 refine O.oo 4 H<|O.p (Pu.makeFunc [.pointer (some ⟨g1,0,none⟩),.pointer (some ⟨g2,0,none⟩)] H) H<|O.oc 2 H ?_
 exact J.r1 [1,0] H H H ⟨g1,g2,H,H⟩
end Go.Proofs.YtohjlkjhpibkmaaGreatDoor
